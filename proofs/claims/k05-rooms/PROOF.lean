import PyProof.Rows.All
import Wide.All
import OpenK.AllK
import Wide.FinOn
import HandS.ForMost
import HandS.ForExc
import HandS.Evl
import HandS.HeadHook2
import HandS.Defaults
import HandS.CallSlots
import HandS.IsInst
import HandS.Wide
import HandS.WideBits
import HandS.Lambda
import HandS.Gcd
import HandS.SortRule
import HandS.SortInts
import HandS.Zip
import KE.DatumOrd
import HandS.Head0
import HandS.Head1
import HandS.Head2
import HandS.HeadEnd
import HandS.HeadHook1
import HandS.HeadHook4
import HandS.TryMany
import HandS.ExcField
import HandS.ExcInit
import KE.KExcSuper
import HandS.ExcSuper
import PyProof.ReprRoads
import HandS.HeadWalk
import HandS.OwnEq
import HandS.SlotsOwn
import PyProof.InstNe
import HandS.Style
import PySem.Challenge.RW_productrows_k05_whole_rooms
set_option Elab.async false
set_option linter.all false
section
set_option Elab.async false
set_option linter.all false
set_option maxRecDepth 100000
/-! Mx: a layer of value semantics over HandS. Data D (trees), environments of cells, mirrors M : Env → ER RV;
a judgement «the expression e keeps the mirror m» for every construct. -/
namespace L2.MX
open PySem PySem.Spec PyProof.Rows
/-- the tables of code objects: where, and of which name -/
structure LamT where
  params : Arguments
  body : Expr
  scope : Scope
  q : Str
class TabT where
  T : List (Addr × Str)
  lams : List LamT
/-- the object at f: a lambda of that text, of the code object c, with these cells -/
def LamO (f c : Addr) (L : LamT) (cl : List (Str × Addr)) : HO := .ext fun h => ∃ pm ctv : Value, h.get? f = some (PySem.W.kla_obj "<lambda>" L.q L.params L.body L.scope cl pm c ctv)
variable [tb : TabT]
/-- no table, no code object -/
def NTb (u : HO) : Prop := (∀ ps, u ≠ .tbl ps) ∧ ∀ c q, u ≠ LamX.CodeO c q
theorem ntb_lst (xs : List V) : NTb (.lst xs) := ⟨(fun _ z => nomatch z), fun _ _ z => by
  unfold LamX.CodeO at z
  exact nomatch z⟩
theorem ntb_ins (C dx : Addr) (xs : List (Str × V)) : NTb (.ins C dx xs) := ⟨(fun _ z => nomatch z), fun _ _ z => by
  unfold LamX.CodeO at z
  exact nomatch z⟩
theorem ntb_dK (xs : List (Key × V)) : NTb (.dK xs) := ⟨(fun _ z => nomatch z), fun _ _ z => by
  unfold LamX.CodeO at z
  exact nomatch z⟩
/-- each table's code objects are known in G -/
def TabG (T : List (Addr × Str)) (G H : Hp) : Prop := ∀ p ∈ T, ∃ ps : Array Value, H p.1 = some (.tbl ps) ∧ TriplesOk ps.toList ∧ ∀ (pos : Pos) (cv : Value), codeAmong pos ps.toList = some cv → ∃ c, cv = .ref c ∧ G c = some (LamX.CodeO c p.2)
theorem TabG.more {T : List (Addr × Str)} {G G1 H H1 : Hp} (e : ∀ a o, G a = some o → G1 a = some o) (k : ∀ a o, H a = some o → H1 a = some o) (t : TabG T G H) : TabG T G1 H1 := fun p hp => by
  obtain ⟨ps, h1, h2, h3⟩ := t p hp
  refine ⟨ps, k _ _ h1, h2, fun pos cv hc => ?_⟩
  obtain ⟨c, e1, e2⟩ := h3 pos cv hc
  exact ⟨c, e1, e _ _ e2⟩
theorem TabG.tabs {T : List (Addr × Str)} {G H : Hp} (s : ∀ a o, G a = some o → H a = some o) (t : TabG T G H) : LamX.Tabs T H := fun p hp => by
  obtain ⟨ps, h1, h2, h3⟩ := t p hp
  refine ⟨ps, h1, h2, fun pos cv hc => ?_⟩
  obtain ⟨c, e1, e2⟩ := h3 pos cv hc
  exact ⟨c, e1, s _ _ e2⟩
theorem tabs_upd {T : List (Addr × Str)} {G H : Hp} {L : Addr} {o : HO} (h : ∀ u, H L = some u → NTb u) (t : TabG T G H) : TabG T G (upd H L o) := fun p hp => by
  obtain ⟨ps, h1, h2, h3⟩ := t p hp
  have n1 : p.1 ≠ L := fun z => by
    rw [z] at h1
    exact (h _ h1).1 ps rfl
  exact ⟨ps, by rw [upd_ne n1]; exact h1, h2, h3⟩
abbrev NoTab (G : Hp) : Prop := ∀ a ps, G a ≠ some (.tbl ps)
theorem nt_upd {G : Hp} {a : Addr} {o : HO} (h : ∀ ps, o ≠ .tbl ps) (n : NoTab G) : NoTab (upd G a o) := fun b ps e => by
  by_cases hb : b = a
  · rw [hb, upd_same] at e
    exact h ps (Option.some.inj e)
  · rw [upd_ne hb] at e
    exact n b ps e
theorem tup_nt (xs : List V) : ∀ ps, HO.tup xs ≠ .tbl ps := fun _ z => nomatch z

/-! ### data -/
inductive D where
  | non | bl (b : Bool) | int (i : Int) | str (x : Str)
  | tup (ds : List D) | lst (ds : List D) | flst (ds : List D) | ftup (ds : List D) | dic (ks : List Key) (ds : List D)
  | ins (c : Str) (fs : List Str) (ds : List D) | clo (k : Nat) (cl : List (Str × Addr))

mutual
def Rep (K : PySem.W.Frag) (G : Hp) : D → V → Prop
  | .non, v => v = .non
  | .bl b, v => v = .bl b
  | .int i, v => v = .int i
  | .str x, v => v = .str x
  | .tup ds, v => ∃ a vs, v = .ref a ∧ G a = some (.tup vs) ∧ Reps K G ds vs
  | .lst ds, v => ∃ a vs, v = .ref a ∧ G a = some (.lst vs) ∧ Reps K G ds vs
  | .flst ds, v => ∃ a vs, v = .ref a ∧ SqL K G a vs ∧ Reps K G ds vs
  | .ftup ds, v => ∃ a vs, v = .ref a ∧ SqT K G a vs ∧ Reps K G ds vs
  | .dic ks ds, v => ∃ a vs, v = .ref a ∧ G a = some (.dK (ks.zip vs)) ∧ ks.length = vs.length ∧ Reps K G ds vs
  | .ins c fs ds, v => ∃ a dx vs, v = .ref a ∧ G a = some (.ins (He.ga K c) dx (fs.zip vs)) ∧ fs.length = vs.length ∧ Reps K G ds vs
  | .clo k cl, v => ∃ f c L, v = .ref f ∧ tb.lams[k]? = some L ∧ G f = some (LamO f c L cl) ∧ G c = some (LamX.CodeO c L.q)
def Reps (K : PySem.W.Frag) (G : Hp) : List D → List V → Prop
  | [], vs => vs = []
  | d :: ds, vs => ∃ v r, vs = v :: r ∧ Rep K G d v ∧ Reps K G ds r
end

/-- G is within H -/
abbrev Ex (G H : Hp) : Prop := ∀ a o, G a = some o → H a = some o
theorem Ex.refl (G : Hp) : Ex G G := fun _ _ h => h
theorem Ex.trans {A B C : Hp} (h : Ex A B) (k : Ex B C) : Ex A C := fun a o e => k a o (h a o e)

section
variable {K : PySem.W.Frag} {G G' : Hp}
theorem sqL_mono {a : Addr} {vs : List V} (e : Ex G G') (h : SqL K G a vs) : SqL K G' a vs := Evl.ex_l e h
theorem sqT_mono {a : Addr} {vs : List V} (e : Ex G G') (h : SqT K G a vs) : SqT K G' a vs := Evl.ex_t e h
mutual
theorem Rep.mono (e : Ex G G') : ∀ (d : D) {v : V}, Rep K G d v → Rep K G' d v
  | .non, _, h => h
  | .bl _, _, h => h
  | .int _, _, h => h
  | .str _, _, h => h
  | .tup ds, _, h => by
    obtain ⟨a, vs, rfl, hs, hr⟩ := h
    exact ⟨a, vs, rfl, e _ _ hs, Reps.mono e ds hr⟩
  | .lst ds, _, h => by
    obtain ⟨a, vs, rfl, hs, hr⟩ := h
    exact ⟨a, vs, rfl, e _ _ hs, Reps.mono e ds hr⟩
  | .ftup ds, _, h => by
    obtain ⟨a, vs, rfl, hs, hr⟩ := h
    exact ⟨a, vs, rfl, sqT_mono e hs, Reps.mono e ds hr⟩
  | .flst ds, _, h => by
    obtain ⟨a, vs, rfl, hs, hr⟩ := h
    exact ⟨a, vs, rfl, sqL_mono e hs, Reps.mono e ds hr⟩
  | .dic ks ds, _, h => by
    obtain ⟨a, vs, rfl, hs, hl, hr⟩ := h
    exact ⟨a, vs, rfl, e _ _ hs, hl, Reps.mono e ds hr⟩
  | .ins c fs ds, _, h => by
    obtain ⟨a, dx, vs, rfl, hs, hl, hr⟩ := h
    exact ⟨a, dx, vs, rfl, e _ _ hs, hl, Reps.mono e ds hr⟩
  | .clo k cl, _, h => by
    obtain ⟨f, c, L, rfl, h1, h2, h3⟩ := h
    exact ⟨f, c, L, rfl, h1, e _ _ h2, e _ _ h3⟩
theorem Reps.mono (e : Ex G G') : ∀ (ds : List D) {vs : List V}, Reps K G ds vs → Reps K G' ds vs
  | [], _, h => h
  | d :: ds, _, h => by
    obtain ⟨v, r, rfl, hv, hr⟩ := h
    exact ⟨v, r, rfl, Rep.mono e d hv, Reps.mono e ds hr⟩
end
theorem Reps.length : ∀ {ds : List D} {vs : List V}, Reps K G ds vs → ds.length = vs.length
  | [], vs, h => by
    have e : vs = [] := h
    subst e
    rfl
  | d :: ds, _, h => by
    obtain ⟨v, r, rfl, _, hr⟩ := h
    simp [Reps.length hr]
theorem Reps.get : ∀ {ds : List D} {vs : List V} {i : Nat} {d : D}, Reps K G ds vs → ds[i]? = some d → ∃ v, vs[i]? = some v ∧ Rep K G d v
  | [], _, i, d, _, e => by simp at e
  | c :: ds, _, 0, d, h, e => by
    obtain ⟨v, r, rfl, hv, _⟩ := h
    simp at e; subst e
    exact ⟨v, rfl, hv⟩
  | c :: ds, _, i + 1, d, h, e => by
    obtain ⟨v, r, rfl, _, hr⟩ := h
    obtain ⟨w, h1, h2⟩ := Reps.get (i := i) (d := d) hr (by simpa using e)
    exact ⟨w, by simpa using h1, h2⟩
theorem Reps.get' : ∀ {ds : List D} {vs : List V} {i : Nat} {v : V}, Reps K G ds vs → vs[i]? = some v → ∃ d, ds[i]? = some d ∧ Rep K G d v := fun {ds vs i v} h e => by
  have hl := h.length
  obtain ⟨hi, _⟩ := List.getElem?_eq_some_iff.mp e
  have hd : ds[i]? = some (ds[i]'(by omega)) := List.getElem?_eq_getElem (by omega)
  obtain ⟨w, h1, h2⟩ := h.get hd
  rw [e] at h1; cases h1
  exact ⟨_, hd, h2⟩
theorem Reps.append : ∀ {ds es : List D} {vs ws : List V}, Reps K G ds vs → Reps K G es ws → Reps K G (ds ++ es) (vs ++ ws)
  | [], _, _, _, h, k => by
    have e : _ = [] := h
    subst e
    exact k
  | d :: ds, _, _, _, h, k => by
    obtain ⟨v, r, rfl, hv, hr⟩ := h
    exact ⟨v, _, rfl, hv, Reps.append hr k⟩
theorem Reps.one {d : D} {v : V} (h : Rep K G d v) : Reps K G [d] [v] := ⟨v, [], rfl, h, rfl⟩
theorem Reps.set : ∀ {ds : List D} {vs : List V} (i : Nat) {d : D} {v : V}, Rep K G d v → Reps K G ds vs → Reps K G (ds.set i d) (vs.set i v)
  | [], _, _, _, _, _, h => by
    have e : _ = [] := h
    subst e
    exact rfl
  | c :: ds, _, 0, d, v, hd, h => by
    obtain ⟨w, r, rfl, _, hr⟩ := h
    exact ⟨v, r, rfl, hd, hr⟩
  | c :: ds, _, i + 1, d, v, hd, h => by
    obtain ⟨w, r, rfl, hw, hr⟩ := h
    exact ⟨w, _, rfl, hw, Reps.set i hd hr⟩
theorem Reps.drop : ∀ {ds : List D} {vs : List V} (n : Nat), Reps K G ds vs → Reps K G (ds.drop n) (vs.drop n)
  | _, _, 0, h => h
  | [], _, n + 1, h => by
    have e : _ = [] := h
    subst e
    exact rfl
  | _ :: _, _, n + 1, h => by
    obtain ⟨w, r, rfl, _, hr⟩ := h
    exact Reps.drop n hr
theorem Reps.take : ∀ {ds : List D} {vs : List V} (n : Nat), Reps K G ds vs → Reps K G (ds.take n) (vs.take n)
  | [], _, n, h => by
    have e : _ = [] := h
    subst e
    cases n <;> exact rfl
  | _ :: _, _, 0, h => rfl
  | _ :: _, _, n + 1, h => by
    obtain ⟨w, r, rfl, hw, hr⟩ := h
    exact ⟨w, _, rfl, hw, Reps.take n hr⟩
theorem Reps.eraseIdx : ∀ {ds : List D} {vs : List V} (n : Nat), Reps K G ds vs → Reps K G (ds.eraseIdx n) (vs.eraseIdx n)
  | [], _, n, h => by
    have e : _ = [] := h
    subst e
    exact rfl
  | _ :: _, _, 0, h => by
    obtain ⟨w, r, rfl, hw, hr⟩ := h
    exact hr
  | _ :: _, _, n + 1, h => by
    obtain ⟨w, r, rfl, hw, hr⟩ := h
    exact ⟨w, _, rfl, hw, Reps.eraseIdx n hr⟩
theorem Reps.rep : ∀ {d : D} {v : V} (n : Nat), Rep K G d v → Reps K G (List.replicate n d) (List.replicate n v)
  | _, _, 0, _ => rfl
  | _, _, n + 1, h => ⟨_, _, rfl, h, Reps.rep n h⟩
theorem Reps.ints : ∀ (ns : List Int), Reps K G (ns.map D.int) (ns.map V.int)
  | [] => rfl
  | _ :: ns => ⟨_, _, rfl, rfl, Reps.ints ns⟩
end

/-! ### environments -/
inductive Cell where
  | un | pl (d : D) | ow (d : D) | io (d : D)
abbrev Env := List Cell
/-- what an expression gives: plain data | a new list or dict that none else holds -/
inductive RV where
  | pl (d : D) | fr (d : D)
def RV.d : RV → D
  | .pl d => d
  | .fr d => d
structure Exc where
  cls : Str
  fs : List Str
  ds : List D
inductive ER (α : Type) where
  | bad | ok (a : α) (ρ : Env) | ex (x : Exc) (ρ : Env)
inductive SR where
  | bad | nx (ρ : Env) | br (ρ : Env) | ct (ρ : Env) | rt (r : RV) (ρ : Env) | ex (x : Exc) (ρ : Env)
abbrev M := Env → ER RV
abbrev MT := Env → ER Bool
abbrev MS := Env → SR

/-- a is a list or dict of d; what is within stands in G -/
def Top (K : PySem.W.Frag) (G H : Hp) (a : Addr) : D → Prop
  | .lst ds => ∃ vs, H a = some (.lst vs) ∧ Reps K G ds vs
  | .dic ks ds => ∃ vs, H a = some (.dK (ks.zip vs)) ∧ ks.length = vs.length ∧ Reps K G ds vs
  | .ins c fs ds => ∃ dx vs, H a = some (.ins (He.ga K c) dx (fs.zip vs)) ∧ fs.length = vs.length ∧ Reps K G ds vs
  | _ => False
/-- slot i is owned, with d -/
def Owns (ρ : Env) (i : Nat) (d : D) : Prop := ρ[i]? = some (Cell.ow d) ∨ ρ[i]? = some (Cell.io d)
def Own (σ : St) (ρ : Env) (a : Addr) : Prop := ∃ (i : Nat) (d : D), Owns ρ i d ∧ σ[i]? = some (some (.ref a))

structure Rel (K : PySem.W.Frag) (G H : Hp) (σ : St) (ρ : Env) : Prop where
  sub : Ex G H
  len : σ.length = ρ.length
  pl : ∀ (i : Nat) (d : D), ρ[i]? = some (Cell.pl d) → ∃ v, σ[i]? = some (some v) ∧ Rep K G d v
  ow : ∀ (i : Nat) (d : D), Owns ρ i d → ∃ a, σ[i]? = some (some (.ref a)) ∧ G a = none ∧ Top K G H a d
  dis : ∀ (i j : Nat) (d e : D) (a : Addr), Owns ρ i d → Owns ρ j e → σ[i]? = some (some (.ref a)) → σ[j]? = some (some (.ref a)) → i = j
  ntb : NoTab G
  tabs : TabG tb.T G H

/-- from (G, H) to (G', H'): I may be written, else only new objects come -/
structure Go (I : Addr → Prop) (G H G' H' : Hp) : Prop where
  ext : Ex G G'
  keep : ∀ a o, H a = some o → ¬ I a → (∀ ps, o ≠ .tbl ps) → H' a = some o
  live : ∀ a o, H a = some o → ∃ o', H' a = some o'
  new : ∀ a o, G' a = some o → G a = some o ∨ H a = none ∨ I a
  tab : TabG tb.T G H → TabG tb.T G' H'
  nt : NoTab G → NoTab G'
/-- the owned slots stay owned or are let go -/
def Sub (ρ ρ' : Env) : Prop := ∀ i : Nat, (∀ d : D, ρ'[i]? = some (Cell.ow d) → ∃ c : D, ρ[i]? = some (Cell.ow c)) ∧ (∀ d : D, ρ'[i]? = some (Cell.io d) → ∃ c : D, ρ[i]? = some (Cell.io c))
def RVok (K : PySem.W.Frag) (G' H H' : Hp) : RV → V → Prop
  | .pl d, v => Rep K G' d v
  | .fr d, v => ∃ a, v = .ref a ∧ H a = none ∧ G' a = none ∧ Top K G' H' a d

abbrev NoI : Addr → Prop := fun _ => False

section
variable {K : PySem.W.Frag} {I J : Addr → Prop} {G H G1 H1 G2 H2 : Hp} {σ σ' : St} {ρ ρ1 ρ2 : Env}
theorem Sub.refl (ρ : Env) : Sub ρ ρ := fun _ => ⟨fun d h => ⟨d, h⟩, fun d h => ⟨d, h⟩⟩
theorem Sub.trans {a b c : Env} (h : Sub a b) (k : Sub b c) : Sub a c := fun i =>
  ⟨fun d e => by obtain ⟨d1, e1⟩ := (k i).1 d e; exact (h i).1 d1 e1, fun d e => by obtain ⟨d1, e1⟩ := (k i).2 d e; exact (h i).2 d1 e1⟩
theorem Sub.owns (s : Sub ρ ρ1) {i : Nat} {d : D} (h : Owns ρ1 i d) : ∃ c, Owns ρ i c := by
  rcases h with h | h
  · obtain ⟨c, e⟩ := (s i).1 d h; exact ⟨c, .inl e⟩
  · obtain ⟨c, e⟩ := (s i).2 d h; exact ⟨c, .inr e⟩
theorem Sub.own (s : Sub ρ ρ1) {a : Addr} (h : Own σ ρ1 a) : Own σ ρ a := by
  obtain ⟨i, d, h1, h2⟩ := h
  obtain ⟨c, hc⟩ := s.owns h1
  exact ⟨i, c, hc, h2⟩
theorem Go.refl : Go I G H G H := ⟨Ex.refl G, fun _ _ h _ _ => h, fun _ o h => ⟨o, h⟩, fun _ _ h => .inl h, id, id⟩
theorem Go.weak (g : Go I G H G1 H1) (h : ∀ a, I a → J a) : Go J G H G1 H1 :=
  ⟨g.ext, fun a o e n => g.keep a o e (fun z => n (h a z)), g.live, fun a o e => (g.new a o e).imp id (Or.imp id (h a)), g.tab, g.nt⟩
theorem Go.trans (a : Go I G H G1 H1) (b : Go J G1 H1 G2 H2) (hj : ∀ x, J x → I x ∨ H x = none) : Go I G H G2 H2 where
  ext := a.ext.trans b.ext
  keep := fun x o e n m => b.keep x o (a.keep x o e n m) (fun z => by
    rcases hj x z with z | z
    · exact n z
    · rw [e] at z; cases z) m
  tab := fun t => b.tab (a.tab t)
  nt := fun t => b.nt (a.nt t)
  live := fun x o e => by
    obtain ⟨o1, e1⟩ := a.live x o e
    exact b.live x o1 e1
  new := fun x o e => by
    have dead : H1 x = none → H x = none := fun z => by
      cases q : H x with
      | none => rfl
      | some u =>
        obtain ⟨o1, e1⟩ := a.live x u q
        rw [z] at e1; cases e1
    rcases b.new x o e with z | z | z
    · exact a.new x o z
    · exact .inr (.inl (dead z))
    · rcases hj x z with y | y
      · exact .inr (.inr y)
      · exact .inr (.inl y)
theorem Go.trans0 (a : Go I G H G1 H1) (b : Go NoI G1 H1 G2 H2) : Go I G H G2 H2 := a.trans b fun _ z => z.elim
theorem Go.fresh (g : Go I G H G1 H1) {a : Addr} (h : H1 a = none) : H a = none := by
  cases q : H a with
  | none => rfl
  | some u =>
    obtain ⟨o1, e1⟩ := g.live a u q
    rw [h] at e1; cases e1
theorem Top.alive {a : Addr} : ∀ {d : D}, Top K G H a d → ∃ o, H a = some o
  | .lst _, ⟨_, h, _⟩ => ⟨_, h⟩
  | .dic _ _, ⟨_, h, _, _⟩ => ⟨_, h⟩
  | .ins _ _ _, ⟨_, _, h, _, _⟩ => ⟨_, h⟩
  | .non, h => h.elim
  | .bl _, h => h.elim
  | .int _, h => h.elim
  | .str _, h => h.elim
  | .tup _, h => h.elim
  | .flst _, h => h.elim
  | .ftup _, h => h.elim
  | .clo _ _, h => h.elim
theorem Top.ntb {a : Addr} {o : HO} (e : H a = some o) : ∀ {d : D}, Top K G H a d → NTb o
  | .lst _, ⟨_, h, _⟩ => by
    rw [e] at h; cases h
    exact ntb_lst _
  | .dic _ _, ⟨_, h, _, _⟩ => by
    rw [e] at h; cases h
    exact ntb_dK _
  | .ins _ _ _, ⟨_, _, h, _, _⟩ => by
    rw [e] at h; cases h
    exact ntb_ins _ _ _
  | .non, h => h.elim
  | .bl _, h => h.elim
  | .int _, h => h.elim
  | .str _, h => h.elim
  | .tup _, h => h.elim
  | .flst _, h => h.elim
  | .ftup _, h => h.elim
  | .clo _ _, h => h.elim
theorem Top.mono {a : Addr} (e : Ex G G1) (k : ∀ o, H a = some o → (∀ ps, o ≠ .tbl ps) → H1 a = some o) : ∀ {d : D}, Top K G H a d → Top K G1 H1 a d
  | .lst ds, ⟨vs, h, r⟩ => ⟨vs, k _ h (ntb_lst vs).1, Reps.mono e ds r⟩
  | .dic _ ds, ⟨vs, h, l, r⟩ => ⟨vs, k _ h (ntb_dK _).1, l, Reps.mono e ds r⟩
  | .ins _ _ ds, ⟨dx, vs, h, l, r⟩ => ⟨dx, vs, k _ h (ntb_ins _ _ _).1, l, Reps.mono e ds r⟩
  | .non, h => h.elim
  | .bl _, h => h.elim
  | .int _, h => h.elim
  | .str _, h => h.elim
  | .tup _, h => h.elim
  | .flst _, h => h.elim
  | .ftup _, h => h.elim
  | .clo _ _, h => h.elim
/-- published: it stands in G -/
theorem Top.rep {a : Addr} (e : Ex G G1) (k : G1 a = H a) : ∀ {d : D}, Top K G H a d → Rep K G1 d (.ref a)
  | .lst ds, ⟨vs, h, r⟩ => ⟨a, vs, rfl, k.trans h, Reps.mono e ds r⟩
  | .dic _ ds, ⟨vs, h, l, r⟩ => ⟨a, vs, rfl, k.trans h, l, Reps.mono e ds r⟩
  | .ins _ _ ds, ⟨dx, vs, h, l, r⟩ => ⟨a, dx, vs, rfl, k.trans h, l, Reps.mono e ds r⟩
  | .non, h => h.elim
  | .bl _, h => h.elim
  | .int _, h => h.elim
  | .str _, h => h.elim
  | .tup _, h => h.elim
  | .flst _, h => h.elim
  | .ftup _, h => h.elim
  | .clo _ _, h => h.elim
theorem Rel.alive (r : Rel K G H σ ρ) {a : Addr} (h : Own σ ρ a) : ∃ o, H a = some o := by
  obtain ⟨i, d, h1, h2⟩ := h
  obtain ⟨b, e1, _, t⟩ := r.ow i d h1
  rw [h2] at e1; cases e1
  exact t.alive
theorem Rel.out (r : Rel K G H σ ρ) {a : Addr} (h : Own σ ρ a) : G a = none := by
  obtain ⟨i, d, h1, h2⟩ := h
  obtain ⟨b, e1, n, _⟩ := r.ow i d h1
  rw [h2] at e1; cases e1
  exact n
/-- the environment stands through a step that writes nothing -/
theorem Rel.step (r : Rel K G H σ ρ) (g : Go NoI G H G1 H1) (s : Ex G1 H1) : Rel K G1 H1 σ ρ where
  sub := s
  len := r.len
  pl := fun i d h => by
    obtain ⟨v, e, q⟩ := r.pl i d h
    exact ⟨v, e, Rep.mono g.ext d q⟩
  ow := fun i d h => by
    obtain ⟨a, e, n, t⟩ := r.ow i d h
    refine ⟨a, e, ?_, t.mono g.ext fun o z => g.keep a o z fun y => y⟩
    cases q : G1 a with
    | none => rfl
    | some o =>
      obtain ⟨u, hu⟩ := t.alive
      rcases g.new a o q with z | z | z
      · rw [n] at z; cases z
      · rw [hu] at z; cases z
      · exact z.elim
  dis := r.dis
  ntb := g.nt r.ntb
  tabs := g.tab r.tabs
/-- a new object of which none knows comes into G -/
theorem publish (r0 : Rel K G H σ ρ) (g : Go (Own σ ρ) G H G1 H1) (r : Rel K G1 H1 σ ρ1) (s : Sub ρ ρ1) {rv : RV} {v : V} (h : RVok K G1 H H1 rv v) :
    ∃ G2, Go (Own σ ρ) G H G2 H1 ∧ Rel K G2 H1 σ ρ1 ∧ Ex G1 G2 ∧ Rep K G2 rv.d v := by
  cases rv with
  | pl d => exact ⟨G1, g, r, Ex.refl _, h⟩
  | fr d =>
    obtain ⟨a, rfl, ha, hg, t⟩ := h
    obtain ⟨o, ho⟩ := t.alive
    have ex : Ex G1 (upd G1 a o) := fun b u e => by
      by_cases hb : b = a
      · rw [hb, hg] at e; cases e
      · rw [upd_ne hb]; exact e
    have nown : ∀ b, Own σ ρ1 b → b ≠ a := fun b hb z => by
      obtain ⟨u, hu⟩ := r0.alive (s.own hb)
      rw [z, ha] at hu; cases hu
    have nt : NoTab (upd G1 a o) := fun b ps e => by
      by_cases hb : b = a
      · rw [hb, upd_same] at e
        cases e
        exact (t.ntb ho).1 ps rfl
      · rw [upd_ne hb] at e
        exact r.ntb b ps e
    refine ⟨upd G1 a o, ⟨g.ext.trans ex, g.keep, g.live, fun b u e => ?_, fun t => (g.tab t).more ex (fun _ _ z => z), fun _ => nt⟩, ⟨fun b u e => ?_, r.len, fun i d h => ?_, fun i d h => ?_, r.dis, nt, r.tabs.more ex (fun _ _ z => z)⟩, ex, t.rep ex (by rw [upd_same, ho])⟩
    · by_cases hb : b = a
      · rw [hb]; exact .inr (.inl ha)
      · rw [upd_ne hb] at e; exact g.new b u e
    · by_cases hb : b = a
      · rw [hb, upd_same] at e; rw [hb, ← e]; exact ho
      · rw [upd_ne hb] at e; exact r.sub b u e
    · obtain ⟨v, e, q⟩ := r.pl i d h
      exact ⟨v, e, Rep.mono ex d q⟩
    · obtain ⟨b, e, n, t⟩ := r.ow i d h
      refine ⟨b, e, ?_, t.mono ex fun _ z _ => z⟩
      rw [upd_ne (nown b ⟨i, d, h, e⟩)]
      exact n
end

/-! ### an exception's data: its class by name, its fields -/
def XRep (K : PySem.W.Frag) (G H : Hp) (x : Exc) (cls : Value) (d : Option Addr) : Prop :=
  cls = .ref (He.ga K x.cls) ∧ ∃ (dd : Addr) (vs : List V), d = some dd ∧ G dd = none ∧ H dd = some (.xd (x.fs.zip vs)) ∧ x.fs.length = vs.length ∧ Reps K G x.ds vs

/-! ### what a mirror's answer asks of what follows -/
def PostE (K : PySem.W.Frag) (G H : Hp) (σ : St) (ρ : Env) (W : WX) (Q : VK) : ER RV → Prop
  | .bad => False
  | .ok r ρ1 => ∀ v G1 H1, Go (Own σ ρ) G H G1 H1 → Rel K G1 H1 σ ρ1 → Sub ρ ρ1 → RVok K G1 H H1 r v → Q v H1
  | .ex x ρ1 => ∀ cls d G1 H1, Go (Own σ ρ) G H G1 H1 → Rel K G1 H1 σ ρ1 → Sub ρ ρ1 → XRep K G1 H1 x cls d → W cls d σ H1
def PostT (K : PySem.W.Frag) (G H : Hp) (σ : St) (ρ : Env) (W : WX) (Q : Bool → Hp → Prop) : ER Bool → Prop
  | .bad => False
  | .ok b ρ1 => ∀ G1 H1, Go (Own σ ρ) G H G1 H1 → Rel K G1 H1 σ ρ1 → Sub ρ ρ1 → Q b H1
  | .ex x ρ1 => ∀ cls d G1 H1, Go (Own σ ρ) G H G1 H1 → Rel K G1 H1 σ ρ1 → Sub ρ ρ1 → XRep K G1 H1 x cls d → W cls d σ H1
/-- a statement's step -/
structure Ss (G H : Hp) (σ : St) (ρ : Env) (G1 H1 : Hp) (σ1 : St) (ρ1 : Env) : Prop where
  go : Go (Own σ ρ) G H G1 H1
  own : ∀ a, Own σ1 ρ1 a → Own σ ρ a ∨ H a = none
  io : ∀ (i : Nat) (d : D), ρ1[i]? = some (Cell.io d) → σ1[i]? = σ[i]? ∧ ∃ c : D, ρ[i]? = some (Cell.io c)
def PostS (K : PySem.W.Frag) (G H : Hp) (σ : St) (ρ : Env) (W : WX) (D : Ends) : SR → Prop
  | .bad => False
  | .nx ρ1 => ∀ σ1 G1 H1, Ss G H σ ρ G1 H1 σ1 ρ1 → Rel K G1 H1 σ1 ρ1 → D.nx σ1 H1
  | .br ρ1 => ∀ σ1 G1 H1, Ss G H σ ρ G1 H1 σ1 ρ1 → Rel K G1 H1 σ1 ρ1 → D.bk σ1 H1
  | .ct ρ1 => ∀ σ1 G1 H1, Ss G H σ ρ G1 H1 σ1 ρ1 → Rel K G1 H1 σ1 ρ1 → D.ct σ1 H1
  | .rt r ρ1 => ∀ σ1 v G1 H1, Ss G H σ ρ G1 H1 σ1 ρ1 → Rel K G1 H1 σ1 ρ1 → RVok K G1 H H1 r v → D.rt v H1
  | .ex x ρ1 => ∀ cls d σ1 G1 H1, Ss G H σ ρ G1 H1 σ1 ρ1 → Rel K G1 H1 σ1 ρ1 → XRep K G1 H1 x cls d → W cls d σ1 H1
def tM (K : PySem.W.Frag) (W : WX) (m : M) : TE := fun σ H Q => ∃ G ρ, Rel K G H σ ρ ∧ PostE K G H σ ρ W Q (m ρ)
def tMT (K : PySem.W.Frag) (W : WX) (m : MT) : TT := fun σ H Q => ∃ G ρ, Rel K G H σ ρ ∧ PostT K G H σ ρ W Q (m ρ)
def tMS (K : PySem.W.Frag) (W : WX) (m : MS) : TS := fun D σ H => ∃ G ρ, Rel K G H σ ρ ∧ PostS K G H σ ρ W D (m ρ)

theorem _root_.L2.PE.imp {X : Cx} {e : Expr} {t t' : TE} (h : PE X e t) (k : ∀ σ H Q, t' σ H Q → t σ H Q) : PE X e t' := ⟨fun pins s σ H Q I q => h.run pins s σ H Q I (k σ H Q q)⟩
theorem _root_.L2.PT.imp {X : Cx} {e : Expr} {t t' : TT} (h : PT X e t) (k : ∀ σ H Q, t' σ H Q → t σ H Q) : PT X e t' := ⟨fun pins s σ H Q I q => h.run pins s σ H Q I (k σ H Q q)⟩
theorem _root_.L2.PS.imp {X : Cx} {e : Stmt} {t t' : TS} (h : PS X e t) (k : ∀ D σ H, t' D σ H → t D σ H) : PS X e t' := ⟨fun pins s σ H D I q => h.run pins s σ H D I (k D σ H q)⟩
theorem _root_.L2.PSs.imp {X : Cx} {e : List Stmt} {t t' : TS} (h : PSs X e t) (k : ∀ D σ H, t' D σ H → t D σ H) : PSs X e t' := ⟨fun pins s σ H D I q => h.run pins s σ H D I (k D σ H q)⟩

/-! ### sequencing -/
def bindM {α β : Type} (a : ER α) (k : α → Env → ER β) : ER β := match a with
  | .bad => .bad
  | .ok r ρ => k r ρ
  | .ex x ρ => .ex x ρ
section
variable {K : PySem.W.Frag} {G H G1 H1 : Hp} {σ : St} {ρ ρ1 : Env} {W : WX} {Q : VK}
/-- what holds behind a first step holds behind both -/
theorem PostE.after (r0 : Rel K G H σ ρ) (g : Go (Own σ ρ) G H G1 H1) (s : Sub ρ ρ1) {e : ER RV} (h : PostE K G H σ ρ W Q e) : PostE K G1 H1 σ ρ1 W Q e := by
  have go2 : ∀ {G2 H2}, Go (Own σ ρ1) G1 H1 G2 H2 → Go (Own σ ρ) G H G2 H2 := fun g2 => g.trans g2 fun x z => .inl (s.own z)
  cases e with
  | bad => exact h
  | ok r ρ2 =>
    intro v G2 H2 g2 r2 s2 q
    refine h v G2 H2 (go2 g2) r2 (s.trans s2) ?_
    cases r with
    | pl d => exact q
    | fr d =>
      obtain ⟨a, e, n, z⟩ := q
      exact ⟨a, e, g.fresh n, z⟩
  | ex x ρ2 => exact fun cls d G2 H2 g2 r2 s2 q => h cls d G2 H2 (go2 g2) r2 (s.trans s2) q
theorem PostT.after {Q : Bool → Hp → Prop} (g : Go (Own σ ρ) G H G1 H1) (s : Sub ρ ρ1) {e : ER Bool} (h : PostT K G H σ ρ W Q e) : PostT K G1 H1 σ ρ1 W Q e := by
  have go2 : ∀ {G2 H2}, Go (Own σ ρ1) G1 H1 G2 H2 → Go (Own σ ρ) G H G2 H2 := fun g2 => g.trans g2 fun x z => .inl (s.own z)
  cases e with
  | bad => exact h
  | ok r ρ2 => exact fun G2 H2 g2 r2 s2 => h G2 H2 (go2 g2) r2 (s.trans s2)
  | ex x ρ2 => exact fun cls d G2 H2 g2 r2 s2 q => h cls d G2 H2 (go2 g2) r2 (s.trans s2) q
theorem Ss.refl (G H : Hp) (σ : St) (ρ : Env) : Ss G H σ ρ G H σ ρ := ⟨Go.refl, fun _ h => .inl h, fun _ d h => ⟨rfl, d, h⟩⟩
theorem Ss.trans {G2 H2 : Hp} {σ1 σ2 : St} {ρ2 : Env} (a : Ss G H σ ρ G1 H1 σ1 ρ1) (b : Ss G1 H1 σ1 ρ1 G2 H2 σ2 ρ2) : Ss G H σ ρ G2 H2 σ2 ρ2 where
  go := a.go.trans b.go a.own
  own := fun x h => by
    rcases b.own x h with z | z
    · exact a.own x z
    · exact .inr (a.go.fresh z)
  io := fun i d h => by
    obtain ⟨e1, c, h1⟩ := b.io i d h
    obtain ⟨e2, c2, h2⟩ := a.io i c h1
    exact ⟨e1.trans e2, c2, h2⟩
theorem Ss.ofE (g : Go (Own σ ρ) G H G1 H1) (s : Sub ρ ρ1) : Ss G H σ ρ G1 H1 σ ρ1 := ⟨g, fun _ h => .inl (s.own h), fun i d h => ⟨rfl, (s i).2 d h⟩⟩
theorem PostS.after {σ1 : St} {D : Ends} (a : Ss G H σ ρ G1 H1 σ1 ρ1) {e : SR} (h : PostS K G H σ ρ W D e) : PostS K G1 H1 σ1 ρ1 W D e := by
  cases e with
  | bad => exact h
  | nx ρ2 => exact fun σ2 G2 H2 b r => h σ2 G2 H2 (a.trans b) r
  | br ρ2 => exact fun σ2 G2 H2 b r => h σ2 G2 H2 (a.trans b) r
  | ct ρ2 => exact fun σ2 G2 H2 b r => h σ2 G2 H2 (a.trans b) r
  | ex x ρ2 => exact fun cls d σ2 G2 H2 b r q => h cls d σ2 G2 H2 (a.trans b) r q
  | rt r ρ2 =>
    intro σ2 v G2 H2 b r2 q
    refine h σ2 v G2 H2 (a.trans b) r2 ?_
    cases r with
    | pl d => exact q
    | fr d =>
      obtain ⟨x, e, n, z⟩ := q
      exact ⟨x, e, a.go.fresh n, z⟩
/-- an operand, then the rest: its value is plain from now on -/
theorem tM_then {m : M} {k : RV → Env → ER RV} {R : V → Hp → Prop} (r0 : Rel K G H σ ρ) (h : PostE K G H σ ρ W Q (bindM (m ρ) k))
    (hk : ∀ G1 H1 ρ1 rv v, Ex G G1 → Rel K G1 H1 σ ρ1 → Rep K G1 rv.d v → PostE K G1 H1 σ ρ1 W Q (k rv ρ1) → R v H1) : tM K W m σ H R := by
  refine ⟨G, ρ, r0, ?_⟩
  cases e : m ρ with
  | bad =>
    rw [e] at h
    exact h
  | ex x ρ1 =>
    rw [e] at h
    exact h
  | ok rv ρ1 =>
    rw [e] at h
    intro v G1 H1 g r s q
    obtain ⟨G2, g2, r2, _, rep⟩ := publish r0 g r s q
    exact hk G2 H1 ρ1 rv v g2.ext r2 rep (PostE.after r0 g2 s h)
theorem tM_thenT {m : M} {k : RV → Env → ER Bool} {R : V → Hp → Prop} {Q : Bool → Hp → Prop} (r0 : Rel K G H σ ρ) (h : PostT K G H σ ρ W Q (bindM (m ρ) k))
    (hk : ∀ G1 H1 ρ1 rv v, Ex G G1 → Rel K G1 H1 σ ρ1 → Rep K G1 rv.d v → PostT K G1 H1 σ ρ1 W Q (k rv ρ1) → R v H1) : tM K W m σ H R := by
  refine ⟨G, ρ, r0, ?_⟩
  cases e : m ρ with
  | bad =>
    rw [e] at h
    exact h
  | ex x ρ1 =>
    rw [e] at h
    exact h
  | ok rv ρ1 =>
    rw [e] at h
    intro v G1 H1 g r s q
    obtain ⟨G2, g2, r2, _, rep⟩ := publish r0 g r s q
    exact hk G2 H1 ρ1 rv v g2.ext r2 rep (PostT.after g2 s h)
theorem tMT_then {m : MT} {k : Bool → Env → ER RV} {R : Bool → Hp → Prop} (r0 : Rel K G H σ ρ) (h : PostE K G H σ ρ W Q (bindM (m ρ) k))
    (hk : ∀ G1 H1 ρ1 b, Ex G G1 → Rel K G1 H1 σ ρ1 → PostE K G1 H1 σ ρ1 W Q (k b ρ1) → R b H1) : tMT K W m σ H R := by
  refine ⟨G, ρ, r0, ?_⟩
  cases e : m ρ with
  | bad =>
    rw [e] at h
    exact h
  | ex x ρ1 =>
    rw [e] at h
    exact h
  | ok b ρ1 =>
    rw [e] at h
    intro G1 H1 g r s
    exact hk G1 H1 ρ1 b g.ext r (PostE.after r0 g s h)
theorem tMT_thenT {m : MT} {k : Bool → Env → ER Bool} {R : Bool → Hp → Prop} {Q : Bool → Hp → Prop} (r0 : Rel K G H σ ρ) (h : PostT K G H σ ρ W Q (bindM (m ρ) k))
    (hk : ∀ G1 H1 ρ1 b, Ex G G1 → Rel K G1 H1 σ ρ1 → PostT K G1 H1 σ ρ1 W Q (k b ρ1) → R b H1) : tMT K W m σ H R := by
  refine ⟨G, ρ, r0, ?_⟩
  cases e : m ρ with
  | bad =>
    rw [e] at h
    exact h
  | ex x ρ1 =>
    rw [e] at h
    exact h
  | ok b ρ1 =>
    rw [e] at h
    intro G1 H1 g r s
    exact hk G1 H1 ρ1 b g.ext r (PostT.after g s h)
end
end L2.MX
end
section
set_option Elab.async false
set_option linter.all false
set_option maxRecDepth 100000
/-! MxA: expressions: names, constants, operands, operators, comparisons, tests, displays. -/
namespace L2.MX
open PySem PySem.Spec PyProof.Rows
variable [tb : TabT]

abbrev ME (X : Cx) (W : WX) (e : Expr) (m : M) : Prop := PE X e (tM X.K W m)
abbrev MTe (X : Cx) (W : WX) (e : Expr) (m : MT) : Prop := PT X e (tMT X.K W m)
abbrev MW (X : Cx) (W : WX) (e : Expr) (m : MT) : Prop := PW X e (tMT X.K W m)
abbrev MSt (X : Cx) (W : WX) (s : Stmt) (m : MS) : Prop := PS X s (tMS X.K W m)
abbrev MSs (X : Cx) (W : WX) (s : List Stmt) (m : MS) : Prop := PSs X s (tMS X.K W m)

/-! ### data seen through the whole heap: a plain thing, or an owned one that is looked at -/
def Rep2 (K : PySem.W.Frag) (G H : Hp) : D → V → Prop
  | .tup ds, v => ∃ a vs, v = .ref a ∧ G a = some (.tup vs) ∧ Reps K G ds vs
  | .ftup ds, v => ∃ a vs, v = .ref a ∧ SqT K H a vs ∧ Reps K G ds vs
  | .lst ds, v => ∃ a vs, v = .ref a ∧ H a = some (.lst vs) ∧ Reps K G ds vs
  | .flst ds, v => ∃ a vs, v = .ref a ∧ SqL K H a vs ∧ Reps K G ds vs
  | .dic ks ds, v => ∃ a vs, v = .ref a ∧ H a = some (.dK (ks.zip vs)) ∧ ks.length = vs.length ∧ Reps K G ds vs
  | .ins c fs ds, v => ∃ a dx vs, v = .ref a ∧ H a = some (.ins (He.ga K c) dx (fs.zip vs)) ∧ fs.length = vs.length ∧ Reps K G ds vs
  | d, v => Rep K G d v
section
variable {K : PySem.W.Frag} {G H : Hp}
theorem Rep.two (s : Ex G H) : ∀ {d : D} {v : V}, Rep K G d v → Rep2 K G H d v
  | .non, _, h => h
  | .bl _, _, h => h
  | .int _, _, h => h
  | .str _, _, h => h
  | .tup _, _, h => h
  | .ftup _, _, h => by obtain ⟨a, vs, e, q, r⟩ := h; exact ⟨a, vs, e, sqT_mono s q, r⟩
  | .lst _, _, h => by obtain ⟨a, vs, e, q, r⟩ := h; exact ⟨a, vs, e, s _ _ q, r⟩
  | .flst _, _, h => by obtain ⟨a, vs, e, q, r⟩ := h; exact ⟨a, vs, e, sqL_mono s q, r⟩
  | .dic _ _, _, h => by obtain ⟨a, vs, e, q, l, r⟩ := h; exact ⟨a, vs, e, s _ _ q, l, r⟩
  | .ins _ _ _, _, h => by obtain ⟨a, dx, vs, e, q, l, r⟩ := h; exact ⟨a, dx, vs, e, s _ _ q, l, r⟩
  | .clo _ _, _, h => h
theorem Top.two {a : Addr} : ∀ {d : D}, Top K G H a d → Rep2 K G H d (.ref a)
  | .lst _, ⟨vs, h, r⟩ => ⟨a, vs, rfl, h, r⟩
  | .dic _ _, ⟨vs, h, l, r⟩ => ⟨a, vs, rfl, h, l, r⟩
  | .ins _ _ _, ⟨dx, vs, h, l, r⟩ => ⟨a, dx, vs, rfl, h, l, r⟩
  | .non, h => h.elim
  | .bl _, h => h.elim
  | .int _, h => h.elim
  | .str _, h => h.elim
  | .tup _, h => h.elim
  | .flst _, h => h.elim
  | .ftup _, h => h.elim
  | .clo _ _, h => h.elim
end

/-! ### operands: a value, or a slot that is looked at when the operation comes -/
inductive Opd where
  | val (d : D) | slot (i : Nat)
def Cell.get : Cell → Option D
  | .un => none
  | .pl d => some d
  | .ow d => some d
  | .io d => some d
def Opd.get (ρ : Env) : Opd → Option D
  | .val d => some d
  | .slot i => (ρ[i]?).bind Cell.get
abbrev MO := Env → ER Opd
def OpdOk (K : PySem.W.Frag) (G : Hp) (σ : St) : Opd → V → Prop
  | .val d, v => Rep K G d v
  | .slot i, v => σ[i]? = some (some v)
def PostO (K : PySem.W.Frag) (G H : Hp) (σ : St) (ρ : Env) (W : WX) (Q : VK) : ER Opd → Prop
  | .bad => False
  | .ok o ρ1 => ∀ v G1 H1, Go (Own σ ρ) G H G1 H1 → Rel K G1 H1 σ ρ1 → Sub ρ ρ1 → OpdOk K G1 σ o v → Q v H1
  | .ex x ρ1 => ∀ cls d G1 H1, Go (Own σ ρ) G H G1 H1 → Rel K G1 H1 σ ρ1 → Sub ρ ρ1 → XRep K G1 H1 x cls d → W cls d σ H1
def tMO (K : PySem.W.Frag) (W : WX) (m : MO) : TE := fun σ H Q => ∃ G ρ, Rel K G H σ ρ ∧ PostO K G H σ ρ W Q (m ρ)
abbrev MOp (X : Cx) (W : WX) (e : Expr) (m : MO) : Prop := PE X e (tMO X.K W m)
/-- a list of operands -/
inductive PairAll (P : Opd → V → Prop) : List Opd → List V → Prop
  | nil : PairAll P [] []
  | cons {o v os vs} : P o v → PairAll P os vs → PairAll P (o :: os) (v :: vs)
abbrev MA := Env → ER (List Opd)
def PostA (K : PySem.W.Frag) (G H : Hp) (σ : St) (ρ : Env) (W : WX) (Q : List V → Hp → Prop) : ER (List Opd) → Prop
  | .bad => False
  | .ok os ρ1 => ∀ vs G1 H1, Go (Own σ ρ) G H G1 H1 → Rel K G1 H1 σ ρ1 → Sub ρ ρ1 → PairAll (OpdOk K G1 σ) os vs → Q vs H1
  | .ex x ρ1 => ∀ cls d G1 H1, Go (Own σ ρ) G H G1 H1 → Rel K G1 H1 σ ρ1 → Sub ρ ρ1 → XRep K G1 H1 x cls d → W cls d σ H1
def tMA (K : PySem.W.Frag) (W : WX) (m : MA) : TA := fun σ H Q => ∃ G ρ, Rel K G H σ ρ ∧ PostA K G H σ ρ W Q (m ρ)
abbrev MAr (X : Cx) (W : WX) (es : List Expr) (m : MA) : Prop := PA X es (tMA X.K W m)
theorem _root_.L2.PA.imp {X : Cx} {e : List Expr} {t t' : TA} (h : PA X e t) (k : ∀ σ H Q, t' σ H Q → t σ H Q) : PA X e t' := ⟨fun pos pins s σ H Q I q => h.run pos pins s σ H Q I (k σ H Q q)⟩

section
variable {K : PySem.W.Frag} {G H G1 H1 : Hp} {σ : St} {ρ ρ1 : Env} {W : WX} {Q : VK}
theorem OpdOk.mono (e : Ex G G1) {o : Opd} {v : V} (h : OpdOk K G σ o v) : OpdOk K G1 σ o v := by
  cases o with
  | val d => exact Rep.mono e d h
  | slot i => exact h
theorem PairAll.mono (e : Ex G G1) {os : List Opd} {vs : List V} (h : PairAll (OpdOk K G σ) os vs) : PairAll (OpdOk K G1 σ) os vs := by
  induction h with
  | nil => exact .nil
  | cons a _ ih => exact .cons (a.mono e) ih
/-- at the operation -/
theorem OpdOk.look (r : Rel K G H σ ρ) {o : Opd} {v : V} {d : D} (h : OpdOk K G σ o v) (e : o.get ρ = some d) : Rep2 K G H d v := by
  cases o with
  | val d' =>
    have e' : d' = d := Option.some.inj e
    subst e'
    exact Rep.two r.sub h
  | slot i =>
    have h : σ[i]? = some (some v) := h
    have e : (ρ[i]?).bind Cell.get = some d := e
    cases q : ρ[i]? with
    | none => rw [q] at e; cases e
    | some c =>
      rw [q] at e
      have own : Owns ρ i d → Rep2 K G H d v := fun o => by
        obtain ⟨a, e1, _, t⟩ := r.ow i d o
        rw [h] at e1; cases e1
        exact t.two
      cases c with
      | un => cases e
      | pl d' =>
        have e' : d' = d := Option.some.inj e
        subst e'
        obtain ⟨w, e1, e2⟩ := r.pl i d' q
        rw [h] at e1; cases e1
        exact Rep.two r.sub e2
      | ow d' =>
        have e' : d' = d := Option.some.inj e
        subst e'
        exact own (.inl q)
      | io d' =>
        have e' : d' = d := Option.some.inj e
        subst e'
        exact own (.inr q)
theorem PostO.after (g : Go (Own σ ρ) G H G1 H1) (s : Sub ρ ρ1) {e : ER Opd} (h : PostO K G H σ ρ W Q e) : PostO K G1 H1 σ ρ1 W Q e := by
  have go2 : ∀ {G2 H2}, Go (Own σ ρ1) G1 H1 G2 H2 → Go (Own σ ρ) G H G2 H2 := fun g2 => g.trans g2 fun x z => .inl (s.own z)
  cases e with
  | bad => exact h
  | ok r ρ2 => exact fun v G2 H2 g2 r2 s2 => h v G2 H2 (go2 g2) r2 (s.trans s2)
  | ex x ρ2 => exact fun cls d G2 H2 g2 r2 s2 q => h cls d G2 H2 (go2 g2) r2 (s.trans s2) q
theorem PostA.after {Q : List V → Hp → Prop} (g : Go (Own σ ρ) G H G1 H1) (s : Sub ρ ρ1) {e : ER (List Opd)} (h : PostA K G H σ ρ W Q e) : PostA K G1 H1 σ ρ1 W Q e := by
  have go2 : ∀ {G2 H2}, Go (Own σ ρ1) G1 H1 G2 H2 → Go (Own σ ρ) G H G2 H2 := fun g2 => g.trans g2 fun x z => .inl (s.own z)
  cases e with
  | bad => exact h
  | ok r ρ2 => exact fun v G2 H2 g2 r2 s2 => h v G2 H2 (go2 g2) r2 (s.trans s2)
  | ex x ρ2 => exact fun cls d G2 H2 g2 r2 s2 q => h cls d G2 H2 (go2 g2) r2 (s.trans s2) q
/-- a first step of any kind, then a rest of any kind -/
theorem tMO_then {β : Type} {P : Hp → Hp → Env → ER β → Prop} {m : MO} {k : Opd → Env → ER β} {R : V → Hp → Prop} (r0 : Rel K G H σ ρ)
    (hbad : P G H ρ .bad → False) (hex : ∀ x ρ1, P G H ρ (.ex x ρ1) → ∀ cls d G1 H1, Go (Own σ ρ) G H G1 H1 → Rel K G1 H1 σ ρ1 → Sub ρ ρ1 → XRep K G1 H1 x cls d → W cls d σ H1)
    (haft : ∀ G1 H1 ρ1 e, Go (Own σ ρ) G H G1 H1 → Sub ρ ρ1 → P G H ρ e → P G1 H1 ρ1 e)
    (h : P G H ρ (bindM (m ρ) k)) (hk : ∀ G1 H1 ρ1 o v, Ex G G1 → Rel K G1 H1 σ ρ1 → OpdOk K G1 σ o v → P G1 H1 ρ1 (k o ρ1) → R v H1) : tMO K W m σ H R := by
  refine ⟨G, ρ, r0, ?_⟩
  cases e : m ρ with
  | bad =>
    rw [e] at h
    exact hbad h
  | ex x ρ1 =>
    rw [e] at h
    exact hex x ρ1 h
  | ok o ρ1 =>
    rw [e] at h
    intro v G1 H1 g r s q
    exact hk G1 H1 ρ1 o v g.ext r q (haft G1 H1 ρ1 _ g s h)
theorem tMO_thenE {m : MO} {k : Opd → Env → ER RV} {R : V → Hp → Prop} (r0 : Rel K G H σ ρ) (h : PostE K G H σ ρ W Q (bindM (m ρ) k))
    (hk : ∀ G1 H1 ρ1 o v, Ex G G1 → Rel K G1 H1 σ ρ1 → OpdOk K G1 σ o v → PostE K G1 H1 σ ρ1 W Q (k o ρ1) → R v H1) : tMO K W m σ H R :=
  tMO_then (P := fun G H ρ e => PostE K G H σ ρ W Q e) r0 (fun z => z) (fun _ _ z => z) (fun _ _ _ _ g s z => PostE.after r0 g s z) h hk
theorem tMO_thenT {m : MO} {k : Opd → Env → ER Bool} {R : V → Hp → Prop} {Q : Bool → Hp → Prop} (r0 : Rel K G H σ ρ) (h : PostT K G H σ ρ W Q (bindM (m ρ) k))
    (hk : ∀ G1 H1 ρ1 o v, Ex G G1 → Rel K G1 H1 σ ρ1 → OpdOk K G1 σ o v → PostT K G1 H1 σ ρ1 W Q (k o ρ1) → R v H1) : tMO K W m σ H R :=
  tMO_then (P := fun G H ρ e => PostT K G H σ ρ W Q e) r0 (fun z => z) (fun _ _ z => z) (fun _ _ _ _ g s z => PostT.after g s z) h hk
theorem tMO_thenA {m : MO} {k : Opd → Env → ER (List Opd)} {R : V → Hp → Prop} {Q : List V → Hp → Prop} (r0 : Rel K G H σ ρ) (h : PostA K G H σ ρ W Q (bindM (m ρ) k))
    (hk : ∀ G1 H1 ρ1 o v, Ex G G1 → Rel K G1 H1 σ ρ1 → OpdOk K G1 σ o v → PostA K G1 H1 σ ρ1 W Q (k o ρ1) → R v H1) : tMO K W m σ H R :=
  tMO_then (P := fun G H ρ e => PostA K G H σ ρ W Q e) r0 (fun z => z) (fun _ _ z => z) (fun _ _ _ _ g s z => PostA.after g s z) h hk
theorem tMA_then {β : Type} {P : Hp → Hp → Env → ER β → Prop} {m : MA} {k : List Opd → Env → ER β} {R : List V → Hp → Prop} (r0 : Rel K G H σ ρ)
    (hbad : P G H ρ .bad → False) (hex : ∀ x ρ1, P G H ρ (.ex x ρ1) → ∀ cls d G1 H1, Go (Own σ ρ) G H G1 H1 → Rel K G1 H1 σ ρ1 → Sub ρ ρ1 → XRep K G1 H1 x cls d → W cls d σ H1)
    (haft : ∀ G1 H1 ρ1 e, Go (Own σ ρ) G H G1 H1 → Sub ρ ρ1 → P G H ρ e → P G1 H1 ρ1 e)
    (h : P G H ρ (bindM (m ρ) k)) (hk : ∀ G1 H1 ρ1 o v, Ex G G1 → Rel K G1 H1 σ ρ1 → PairAll (OpdOk K G1 σ) o v → P G1 H1 ρ1 (k o ρ1) → R v H1) : tMA K W m σ H R := by
  refine ⟨G, ρ, r0, ?_⟩
  cases e : m ρ with
  | bad =>
    rw [e] at h
    exact hbad h
  | ex x ρ1 =>
    rw [e] at h
    exact hex x ρ1 h
  | ok o ρ1 =>
    rw [e] at h
    intro v G1 H1 g r s q
    exact hk G1 H1 ρ1 o v g.ext r q (haft G1 H1 ρ1 _ g s h)
theorem tMA_thenE {m : MA} {k : List Opd → Env → ER RV} {R : List V → Hp → Prop} (r0 : Rel K G H σ ρ) (h : PostE K G H σ ρ W Q (bindM (m ρ) k))
    (hk : ∀ G1 H1 ρ1 o v, Ex G G1 → Rel K G1 H1 σ ρ1 → PairAll (OpdOk K G1 σ) o v → PostE K G1 H1 σ ρ1 W Q (k o ρ1) → R v H1) : tMA K W m σ H R :=
  tMA_then (P := fun G H ρ e => PostE K G H σ ρ W Q e) r0 (fun z => z) (fun _ _ z => z) (fun _ _ _ _ g s z => PostE.after r0 g s z) h hk
theorem tMA_thenA {m : MA} {k : List Opd → Env → ER (List Opd)} {R : List V → Hp → Prop} {Q : List V → Hp → Prop} (r0 : Rel K G H σ ρ) (h : PostA K G H σ ρ W Q (bindM (m ρ) k))
    (hk : ∀ G1 H1 ρ1 o v, Ex G G1 → Rel K G1 H1 σ ρ1 → PairAll (OpdOk K G1 σ) o v → PostA K G1 H1 σ ρ1 W Q (k o ρ1) → R v H1) : tMA K W m σ H R :=
  tMA_then (P := fun G H ρ e => PostA K G H σ ρ W Q e) r0 (fun z => z) (fun _ _ z => z) (fun _ _ _ _ g s z => PostA.after g s z) h hk
/-- an end: a value, with a step that writes nothing -/
theorem PostE.done {r : RV} {v : V} (r0 : Rel K G H σ ρ) (h : PostE K G H σ ρ W Q (.ok r ρ)) (g : Go NoI G H G1 H1) (s : Ex G1 H1) (q : RVok K G1 H H1 r v) : Q v H1 :=
  h v G1 H1 (g.weak fun _ z => z.elim) (r0.step g s) (Sub.refl ρ) q
end

/-! ### names, constants -/
def mK (d : D) : M := fun ρ => .ok (.pl d) ρ
def oVal (m : M) : MO := fun ρ => bindM (m ρ) fun r ρ1 => .ok (.val r.d) ρ1
def oVar (i : Nat) : MO := fun ρ => match ρ[i]? with
  | some (.pl _) => .ok (.slot i) ρ
  | some (.ow _) => .ok (.slot i) ρ
  | some (.io _) => .ok (.slot i) ρ
  | _ => .bad
/-- a name as a value: an owned thing is let go -/
def mVar (i : Nat) : M := fun ρ => match ρ[i]? with
  | some (.pl d) => .ok (.pl d) ρ
  | some (.ow d) => .ok (.pl d) (ρ.set i (.pl d))
  | _ => .bad
section
variable {X : Cx} {W : WX} {pos : Pos}
theorem me_of {e : Expr} {d : D} {v : V} (h : PE X e (tC v)) (k : ∀ G, Rep X.K G d v) : ME X W e (mK d) := h.imp fun σ H Q ⟨G, ρ, r, q⟩ => q v G H Go.refl r (Sub.refl ρ) (k G)
theorem me_int {i j} : ME X W (.Constant (.int i) j pos) (mK (.int i)) := me_of pe_int fun _ => rfl
theorem me_bl {b j} : ME X W (.Constant (.bool b) j pos) (mK (.bl b)) := me_of pe_bl fun _ => rfl
theorem me_non {j} : ME X W (.Constant .none j pos) (mK .non) := me_of pe_non fun _ => rfl
theorem me_str {x j} : ME X W (.Constant (.str x) j pos) (mK (.str x)) := me_of pe_str fun _ => rfl
theorem me_gint {x : Str} {i : Int} (hg : Gl X x) (hm : ∃ t, X.mg x = some (.int i t)) (hd : (x == ("__debug__" : Str)) = false := by decide) : ME X W (.Name x pos) (mK (.int i)) := by
  obtain ⟨t, e⟩ := hm
  exact me_of (v := .int i) (pe_glob hg e ⟨t, rfl⟩ hd) fun _ => rfl
theorem me_gstr {x z : Str} (hg : Gl X x) (hm : ∃ t, X.mg x = some (.str z t)) (hd : (x == ("__debug__" : Str)) = false := by decide) : ME X W (.Name x pos) (mK (.str z)) := by
  obtain ⟨t, e⟩ := hm
  exact me_of (v := .str z) (pe_glob hg e ⟨t, rfl⟩ hd) fun _ => rfl
theorem mo_of {e : Expr} {m : M} (h : ME X W e m) : MOp X W e (oVal m) := h.imp fun σ H Q ⟨G, ρ, r, q⟩ => by
  refine ⟨G, ρ, r, ?_⟩
  have q : PostO X.K G H σ ρ W Q (bindM (m ρ) fun r ρ1 => .ok (.val r.d) ρ1) := q
  cases e : m ρ with
  | bad => rw [e] at q; exact q
  | ex x ρ1 => rw [e] at q; exact q
  | ok rv ρ1 =>
    rw [e] at q
    intro v G1 H1 g r1 s z
    obtain ⟨G2, g2, r2, _, rep⟩ := publish r g r1 s z
    exact q v G2 H1 g2 r2 s rep
theorem mo_var (i : Nat) {x : Str} (hN : X.N[i]? = some x := by rfl) (hv : Vis X.env.scope x := by first | exact Or.inl rfl | exact Or.inr (Or.inl rfl) | exact Or.inr (Or.inr rfl)) (hd : (x == ("__debug__" : Str)) = false := by decide)
    (hcd : (x == ("__classdict__" : Str)) = false := by decide) : MOp X W (.Name x pos) (oVar i) := by
  refine (pe_var hN hv hd hcd).imp fun σ H Q ⟨G, ρ, r, q⟩ => ?_
  unfold oVar at q
  have own : ∀ d, Owns ρ i d → (∀ v G1 H1, Go (Own σ ρ) G H G1 H1 → Rel X.K G1 H1 σ ρ → Sub ρ ρ → OpdOk X.K G1 σ (.slot i) v → Q v H1) → tVar i σ H Q := fun d o q => by
    obtain ⟨a, e, _⟩ := r.ow i d o
    exact ⟨_, e, q _ G H Go.refl r (Sub.refl ρ) e⟩
  split at q
  · rename_i d e
    obtain ⟨v, e1, _⟩ := r.pl i d e
    exact ⟨v, e1, q v G H Go.refl r (Sub.refl ρ) e1⟩
  · rename_i d e
    exact own d (.inl e) q
  · rename_i d e
    exact own d (.inr e) q
  · exact q.elim
theorem Rel.freeze {K : PySem.W.Frag} {G H : Hp} {σ : St} {ρ : Env} {i : Nat} {d : D} {a : Addr} {o : HO} (r : Rel K G H σ ρ) (e : ρ[i]? = some (Cell.ow d)) (ea : σ[i]? = some (some (.ref a))) (eo : H a = some o) (hg : G a = none) (t : Top K G H a d) :
    Rel K (upd G a o) H σ (ρ.set i (.pl d)) ∧ Sub ρ (ρ.set i (.pl d)) ∧ Go (Own σ ρ) G H (upd G a o) H ∧ Rep K (upd G a o) d (.ref a) := by
  have ex : Ex G (upd G a o) := fun b u e => by
    by_cases hb : b = a
    · rw [hb, hg] at e; cases e
    · rw [upd_ne hb]; exact e
  have rep : Rep K (upd G a o) d (.ref a) := t.rep ex (by rw [upd_same, eo])
  have hi : i < ρ.length := (List.getElem?_eq_some_iff.mp e).1
  have at_ : ∀ (j : Nat) (c : Cell), (ρ.set i (.pl d))[j]? = some c → (j = i ∧ c = .pl d) ∨ (j ≠ i ∧ ρ[j]? = some c) := fun j c h => by
    by_cases hj : j = i
    · subst hj
      rw [List.getElem?_set_self hi] at h
      exact .inl ⟨rfl, (Option.some.inj h).symm⟩
    · rw [List.getElem?_set_ne (Ne.symm hj)] at h
      exact .inr ⟨hj, h⟩
  have own : ∀ (j : Nat) (c : D), Owns (ρ.set i (.pl d)) j c → j ≠ i ∧ Owns ρ j c := fun j c h => by
    rcases h with h | h
    · rcases at_ j _ h with ⟨_, z⟩ | ⟨n, z⟩
      · cases z
      · exact ⟨n, .inl z⟩
    · rcases at_ j _ h with ⟨_, z⟩ | ⟨n, z⟩
      · cases z
      · exact ⟨n, .inr z⟩
  refine ⟨⟨fun b u z => ?_, by simpa using r.len, fun j c h => ?_, fun j c h => ?_, fun j k c c2 b h1 h2 => r.dis j k c c2 b (own j c h1).2 (own k c2 h2).2, nt_upd (t.ntb eo).1 r.ntb, r.tabs.more ex (fun _ _ z => z)⟩, fun j => ⟨fun c h => ?_, fun c h => ?_⟩, ⟨ex, fun b u z _ _ => z, fun b u z => ⟨u, z⟩, fun b u z => ?_, fun q => q.more ex (fun _ _ z => z), nt_upd (t.ntb eo).1⟩, rep⟩
  · by_cases hb : b = a
    · rw [hb, upd_same] at z; rw [hb, ← z]; exact eo
    · rw [upd_ne hb] at z; exact r.sub b u z
  · rcases at_ j _ h with ⟨rfl, z⟩ | ⟨n, z⟩
    · cases z; exact ⟨_, ea, rep⟩
    · obtain ⟨v, e1, e2⟩ := r.pl j c z
      exact ⟨v, e1, Rep.mono ex c e2⟩
  · obtain ⟨n, o⟩ := own j c h
    obtain ⟨b, e1, n1, t1⟩ := r.ow j c o
    refine ⟨b, e1, ?_, t1.mono ex fun _ z _ => z⟩
    rw [upd_ne (fun z => n (r.dis j i c d a o (.inl e) (by rw [e1, z]) ea))]
    exact n1
  · exact ⟨c, (at_ j _ h).elim (fun z => nomatch z.2) fun z => z.2⟩
  · exact ⟨c, (at_ j _ h).elim (fun z => nomatch z.2) fun z => z.2⟩
  · by_cases hb : b = a
    · exact .inr (.inr ⟨i, d, .inl e, by rw [hb]; exact ea⟩)
    · rw [upd_ne hb] at z; exact .inl z
theorem me_var (i : Nat) {x : Str} (hN : X.N[i]? = some x := by rfl) (hv : Vis X.env.scope x := by first | exact Or.inl rfl | exact Or.inr (Or.inl rfl) | exact Or.inr (Or.inr rfl)) (hd : (x == ("__debug__" : Str)) = false := by decide)
    (hcd : (x == ("__classdict__" : Str)) = false := by decide) : ME X W (.Name x pos) (mVar i) := by
  refine (pe_var hN hv hd hcd).imp fun σ H Q ⟨G, ρ, r, q⟩ => ?_
  unfold mVar at q
  split at q
  · rename_i d e
    obtain ⟨v, e1, e2⟩ := r.pl i d e
    exact ⟨v, e1, q v G H Go.refl r (Sub.refl ρ) e2⟩
  · rename_i d e
    obtain ⟨a, e1, n, t⟩ := r.ow i d (.inl e)
    obtain ⟨o, ho⟩ := t.alive
    obtain ⟨r2, s2, g2, rep⟩ := r.freeze e e1 ho n t
    exact ⟨_, e1, q _ _ H g2 r2 s2 rep⟩
  · exact q.elim
end
end L2.MX
end
section
set_option Elab.async false
set_option linter.all false
set_option maxRecDepth 100000
/-! MxB: operators, comparisons, tests, displays, subscripts. -/
namespace L2.MX
open PySem PySem.Spec PyProof.Rows
variable [tb : TabT]

/-! ### two operands -/
abbrev Fn2 := D → D → Option RV
def OpS (K : PySem.W.Frag) (f : Fn2) (r : R2) : Prop := ∀ (G H : Hp) (x y : V) (d1 d2 : D) (rv : RV) (Q : VK), Ex G H → Rep2 K G H d1 x → Rep2 K G H d2 y → f d1 d2 = some rv →
  (∀ v G1 H1, Go NoI G H G1 H1 → Ex G1 H1 → RVok K G1 H H1 rv v → Q v H1) → r x y H Q
def ap2 (f : Fn2) (ρ : Env) (o p : Opd) : ER RV := match o.get ρ, p.get ρ with
  | some d1, some d2 => (match f d1 d2 with
    | some rv => .ok rv ρ
    | none => .bad)
  | _, _ => .bad
def mOp (f : Fn2) (a b : MO) : M := fun ρ => bindM (a ρ) fun o ρ1 => bindM (b ρ1) fun p ρ2 => ap2 f ρ2 o p
def mtB (m : M) : MT := fun ρ => bindM (m ρ) fun r ρ1 => match r.d with
  | .bl b => .ok b ρ1
  | _ => .bad
section
variable {K : PySem.W.Frag} {σ : St} {H : Hp} {W : WX}
theorem ap2_ok {G : Hp} {ρ : Env} {f : Fn2} {r : R2} {Q : VK} {o p : Opd} {x y : V} (hs : OpS K f r) (r0 : Rel K G H σ ρ) (ho : OpdOk K G σ o x) (hp : OpdOk K G σ p y) (h : PostE K G H σ ρ W Q (ap2 f ρ o p)) : r x y H Q := by
  unfold ap2 at h
  split at h
  · rename_i d1 d2 e1 e2
    split at h
    · rename_i rv e
      exact hs G H x y d1 d2 rv Q r0.sub (ho.look r0 e1) (hp.look r0 e2) e fun v G1 H1 g s q => PostE.done r0 h g s q
    · exact h.elim
  · exact h.elim
theorem op_then {f : Fn2} {a b : MO} {r : R2} {Q : VK} (hs : OpS K f r) (h : tM K W (mOp f a b) σ H Q) : tOp r (tMO K W a) (tMO K W b) σ H Q := by
  obtain ⟨G, ρ, r0, h⟩ := h
  refine tMO_thenE (Q := Q) r0 h fun G1 H1 ρ1 o v e1 r1 ov h1 => ?_
  refine tMO_thenE (Q := Q) r1 h1 fun G2 H2 ρ2 p w e2 r2 pw h2 => ?_
  exact ap2_ok hs r2 (ov.mono e2) pw h2
theorem test_then {m : M} {Q : Bool → Hp → Prop} (h : tMT K W (mtB m) σ H Q) : tM K W m σ H fun x H1 => ∃ c, x = .bl c ∧ Q c H1 := by
  obtain ⟨G, ρ, r0, h⟩ := h
  refine tM_thenT (Q := Q) r0 h fun G1 H1 ρ1 rv v e1 r1 q h1 => ?_
  split at h1
  · rename_i b e
    rw [e] at q
    exact ⟨b, q, h1 G1 H1 Go.refl r1 (Sub.refl _)⟩
  · exact h1.elim
end
section
variable {X : Cx} {W : WX} {pos : Pos} {a b : Expr} {ma mb : MO} {f : Fn2} {r : R2}
theorem me_op {op : Operator} (ho : OpR X (binaryOp op) r) (hs : OpS X.K f r) (ha : MOp X W a ma) (hb : MOp X W b mb) : ME X W (.BinOp a op b pos) (mOp f ma mb) := (pe_op ho ha hb).imp fun _ _ _ h => op_then hs h
theorem me_cmp {op : CmpOp} (ho : OpR X (compareOp op) r) (hs : OpS X.K f r) (ha : MOp X W a ma) (hb : MOp X W b mb) (hm : behindInMarks op b = false := by first | exact nomark _ | rfl) : ME X W (.Compare a [op] [b] pos) (mOp f ma mb) :=
  (pe_cmpR ho ha hb hm).imp fun _ _ _ h => op_then hs h
/-- a comparison as a test -/
theorem mt_cmp {op : CmpOp} (ho : OpR X (compareOp op) r) (hs : OpS X.K f r) (ha : MOp X W a ma) (hb : MOp X W b mb) (hm : behindInMarks op b = false := by first | exact nomark _ | rfl) : MTe X W (.Compare a [op] [b] pos) (mtB (mOp f ma mb)) := by
  refine (pt_cmpR ho ha hb hm).imp fun σ H Q h => ?_
  have h2 := test_then h
  exact op_then hs h2
/-- an expression that gives a truth value, as a test -/
theorem mt_val {e : Expr} {m : M} (h : ME X W e m) (he : ∀ whole, isTrue e X.env whole = (do let v ← whole; standAt e.pos; holding [v] (truthy v)) := by intro _; rfl) : MTe X W e (mtB m) :=
  (pt_val h he).imp fun σ H Q h => test_then h
end

/-! ### and, or, not, if else -/
def mtAnd (a b : MT) : MT := fun ρ => bindM (a ρ) fun c ρ1 => if c = true then b ρ1 else .ok false ρ1
def mtOr (a b : MT) : MT := fun ρ => bindM (a ρ) fun c ρ1 => if c = true then .ok true ρ1 else b ρ1
def mtNot (a : MT) : MT := fun ρ => bindM (a ρ) fun c ρ1 => .ok (!c) ρ1
def mIf (c : MT) (a b : M) : M := fun ρ => bindM (c ρ) fun k ρ1 => if k = true then a ρ1 else b ρ1
/-- the same as values (truth values all) -/
def mAnd (a b : M) : M := fun ρ => bindM (mtB a ρ) fun c ρ1 => if c = true then b ρ1 else .ok (.pl (.bl false)) ρ1
def mOr (a b : M) : M := fun ρ => bindM (mtB a ρ) fun c ρ1 => if c = true then .ok (.pl (.bl true)) ρ1 else b ρ1
def mNot (a : M) : M := fun ρ => bindM (mtB a ρ) fun c ρ1 => .ok (.pl (.bl (!c))) ρ1
section
variable {X : Cx} {W : WX} {pos : Pos} {a b c : Expr} {rest : List Expr} {ta tb : MT} {ma mb : M}
theorem mw_and1 (h : MTe X W a ta) : MW X W (.BoolOp .And [a] pos) ta := pw_and1 h
theorem mw_or1 (h : MTe X W a ta) : MW X W (.BoolOp .Or [a] pos) ta := pw_or1 h
theorem _root_.L2.PW.imp {X : Cx} {e : Expr} {t t' : TT} (h : PW X e t) (k : ∀ σ H Q, t' σ H Q → t σ H Q) : PW X e t' := ⟨fun wh pins s σ H Q I q => h.run wh pins s σ H Q I (k σ H Q q)⟩
theorem mw_and (ha : MTe X W a ta) (hb : MW X W (.BoolOp .And (b :: rest) pos) tb) : MW X W (.BoolOp .And (a :: b :: rest) pos) (mtAnd ta tb) := by
  refine (pw_and ha hb).imp fun σ H Q ⟨G, ρ, r, h⟩ => ?_
  refine tMT_thenT (Q := Q) r h fun G1 H1 ρ1 k e1 r1 h1 => ?_
  cases k with
  | true => exact ⟨G1, ρ1, r1, h1⟩
  | false => exact h1 G1 H1 Go.refl r1 (Sub.refl _)
theorem mw_or (ha : MTe X W a ta) (hb : MW X W (.BoolOp .Or (b :: rest) pos) tb) : MW X W (.BoolOp .Or (a :: b :: rest) pos) (mtOr ta tb) := by
  refine (pw_or ha hb).imp fun σ H Q ⟨G, ρ, r, h⟩ => ?_
  refine tMT_thenT (Q := Q) r h fun G1 H1 ρ1 k e1 r1 h1 => ?_
  cases k with
  | false => exact ⟨G1, ρ1, r1, h1⟩
  | true => exact h1 G1 H1 Go.refl r1 (Sub.refl _)
theorem mt_w {e : Expr} {t : MT} (h : MW X W e t) : MTe X W e t := PW.pt h
theorem mt_not (ha : MTe X W a ta) : MTe X W (.UnaryOp .Not a pos) (mtNot ta) := by
  refine (pt_not ha).imp fun σ H Q ⟨G, ρ, r, h⟩ => ?_
  refine tMT_thenT (Q := Q) r h fun G1 H1 ρ1 k e1 r1 h1 => ?_
  exact h1 G1 H1 Go.refl r1 (Sub.refl _)
theorem me_if (hc : MTe X W c ta) (ha : ME X W a ma) (hb : ME X W b mb) : ME X W (.IfExp c a b pos) (mIf ta ma mb) := by
  refine (pe_ifExp hc ha hb).imp fun σ H Q ⟨G, ρ, r, h⟩ => ?_
  refine tMT_then (Q := Q) r h fun G1 H1 ρ1 k e1 r1 h1 => ?_
  cases k with
  | true => exact ⟨G1, ρ1, r1, h1⟩
  | false => exact ⟨G1, ρ1, r1, h1⟩
theorem me_one {op} (h : ME X W a ma) : ME X W (.BoolOp op [a] pos) ma := pe_one h
theorem mtB_then {K : PySem.W.Frag} {G H : Hp} {σ : St} {ρ : Env} {m : M} {k : Bool → Env → ER RV} {Q : VK} {R : V → Hp → Prop} (r0 : Rel K G H σ ρ) (h : PostE K G H σ ρ W Q (bindM (mtB m ρ) k))
    (hk : ∀ G1 H1 ρ1 c, Ex G G1 → Rel K G1 H1 σ ρ1 → PostE K G1 H1 σ ρ1 W Q (k c ρ1) → R (.bl c) H1) : tM K W m σ H R := by
  refine ⟨G, ρ, r0, ?_⟩
  unfold mtB at h
  cases e : m ρ with
  | bad =>
    rw [e] at h
    exact h
  | ex x ρ1 =>
    rw [e] at h
    exact h
  | ok rv ρ1 =>
    rw [e] at h
    intro v G1 H1 g r s q
    obtain ⟨G2, g2, r2, _, rep⟩ := publish r0 g r s q
    have h : PostE K G H σ ρ W Q (bindM (match rv.d with
      | .bl b => ER.ok b ρ1
      | _ => .bad) k) := h
    split at h
    · rename_i c ec
      rw [ec] at rep
      have ev : v = .bl c := rep
      subst ev
      exact hk G2 H1 ρ1 c g2.ext r2 (PostE.after r0 g2 s h)
    · exact h.elim
theorem me_and (ha : ME X W a ma) (hb : ME X W (.BoolOp .And (b :: rest) pos) mb) : ME X W (.BoolOp .And (a :: b :: rest) pos) (mAnd ma mb) := by
  refine (pe_and ha hb).imp fun σ H Q ⟨G, ρ, r, h⟩ => ?_
  refine mtB_then (Q := Q) r h fun G1 H1 ρ1 k e1 r1 h1 => ⟨k, rfl, ?_⟩
  cases k with
  | true => exact ⟨G1, ρ1, r1, h1⟩
  | false => exact h1 _ G1 H1 Go.refl r1 (Sub.refl _) rfl
theorem me_or (ha : ME X W a ma) (hb : ME X W (.BoolOp .Or (b :: rest) pos) mb) : ME X W (.BoolOp .Or (a :: b :: rest) pos) (mOr ma mb) := by
  refine (pe_or ha hb).imp fun σ H Q ⟨G, ρ, r, h⟩ => ?_
  refine mtB_then (Q := Q) r h fun G1 H1 ρ1 k e1 r1 h1 => ⟨k, rfl, ?_⟩
  cases k with
  | false => exact ⟨G1, ρ1, r1, h1⟩
  | true => exact h1 _ G1 H1 Go.refl r1 (Sub.refl _) rfl
theorem me_not (ha : ME X W a ma) : ME X W (.UnaryOp .Not a pos) (mNot ma) := by
  refine (pe_not ha).imp fun σ H Q ⟨G, ρ, r, h⟩ => ?_
  refine mtB_then (Q := Q) r h fun G1 H1 ρ1 k e1 r1 h1 => ⟨k, rfl, ?_⟩
  exact h1 _ G1 H1 Go.refl r1 (Sub.refl _) rfl
end

/-! ### a chain a < b <= c -/
def mChain (f f' : Fn2) (a b c : MO) : M := fun ρ => bindM (a ρ) fun o ρ1 => bindM (b ρ1) fun p ρ2 => bindM (mtB (fun ρ => ap2 f ρ o p) ρ2) fun k ρ3 =>
  if k = true then bindM (c ρ3) fun q ρ4 => ap2 f' ρ4 p q else .ok (.pl (.bl false)) ρ3
section
variable {X : Cx} {W : WX} {pos : Pos} {a b c : Expr} {ma mb mc : MO} {f f' : Fn2} {r r' : R2}
theorem ap2_then {K : PySem.W.Frag} {G H : Hp} {σ : St} {ρ : Env} {Q : VK} {R : V → Hp → Prop} {k : Bool → Env → ER RV} {o p : Opd} {x y : V} (hs : OpS K f r) (r0 : Rel K G H σ ρ) (ho : OpdOk K G σ o x) (hp : OpdOk K G σ p y)
    (h : PostE K G H σ ρ W Q (bindM (mtB (fun ρ => ap2 f ρ o p) ρ) k)) (hk : ∀ G1 H1 c, Ex G G1 → Rel K G1 H1 σ ρ → PostE K G1 H1 σ ρ W Q (k c ρ) → R (.bl c) H1) : r x y H R := by
  unfold mtB ap2 at h
  dsimp only at h
  split at h
  · rename_i d1 d2 e1 e2
    split at h
    · rename_i rv e
      refine hs G H x y d1 d2 rv R r0.sub (ho.look r0 e1) (hp.look r0 e2) e fun v G1 H1 g s q => ?_
      have h : PostE K G H σ ρ W Q (bindM (match rv.d with
        | .bl b => ER.ok b ρ
        | _ => .bad) k) := h
      split at h
      · rename_i c ec
        have ev : v = .bl c := by
          cases rv with
          | pl d =>
            have ed : d = .bl c := ec
            subst ed
            exact q
          | fr d =>
            have ed : d = .bl c := ec
            subst ed
            obtain ⟨_, _, _, _, t⟩ := q
            exact t.elim
        subst ev
        have g' : Go (Own σ ρ) G H G1 H1 := g.weak fun _ z => z.elim
        exact hk G1 H1 c g.ext (r0.step g s) (PostE.after r0 g' (Sub.refl ρ) h)
      · exact h.elim
    · exact h.elim
  · exact h.elim
theorem chain_then {K : PySem.W.Frag} {σ : St} {H : Hp} {Q : VK} (hs : OpS K f r) (hs' : OpS K f' r') (h : tM K W (mChain f f' ma mb mc) σ H Q) : tChain r r' (tMO K W ma) (tMO K W mb) (tMO K W mc) σ H Q := by
  obtain ⟨G, ρ, r0, h⟩ := h
  refine tMO_thenE (Q := Q) r0 h fun G1 H1 ρ1 o v e1 r1 ov h1 => ?_
  refine tMO_thenE (Q := Q) r1 h1 fun G2 H2 ρ2 p w e2 r2 pw h2 => ?_
  refine ap2_then (Q := Q) hs r2 (ov.mono e2) pw h2 fun G3 H3 k e3 r3 h3 => ⟨k, rfl, ?_⟩
  cases k with
  | true =>
    refine tMO_thenE (Q := Q) r3 h3 fun G4 H4 ρ4 q u e4 r4 qu h4 => ?_
    exact ap2_ok hs' r4 (pw.mono (e3.trans e4)) qu h4
  | false => exact h3 _ G3 H3 Go.refl r3 (Sub.refl _) rfl
theorem me_chain {op op' : CmpOp} (ho : OpR X (compareOp op) r) (hs : OpS X.K f r) (ho' : OpR X (compareOp op') r') (hs' : OpS X.K f' r') (ha : MOp X W a ma) (hb : MOp X W b mb) (hc : MOp X W c mc)
    (hm : lastMarks [op, op'] [b, c] = false := by with_unfolding_all rfl) : ME X W (.Compare a [op, op'] [b, c] pos) (mChain f f' ma mb mc) :=
  (pe_chain ho ho' ha hb hc hm).imp fun _ _ _ h => chain_then hs hs' h
theorem mt_chain {op op' : CmpOp} (ho : OpR X (compareOp op) r) (hs : OpS X.K f r) (ho' : OpR X (compareOp op') r') (hs' : OpS X.K f' r') (ha : MOp X W a ma) (hb : MOp X W b mb) (hc : MOp X W c mc)
    (hm : lastMarks [op, op'] [b, c] = false := by with_unfolding_all rfl) : MTe X W (.Compare a [op, op'] [b, c] pos) (mtB (mChain f f' ma mb mc)) :=
  (pt_chain ho ho' ha hb hc hm).imp fun _ _ _ h => chain_then hs hs' (test_then h)
end
end L2.MX
end
section
set_option Elab.async false
set_option linter.all false
set_option maxRecDepth 100000
/-! MxC: the operators' functions on data. -/
namespace L2.MX
open PySem PySem.Spec PyProof.Rows
variable [tb : TabT]

theorem RVok.plain {K : PySem.W.Frag} {G H H' : Hp} {d : D} {v : V} (h : Rep K G d v) : RVok K G H H' (.pl d) v := h
/-- an answer without a new object -/
theorem same_end {K : PySem.W.Frag} {G H : Hp} {d : D} {v : V} {Q : VK} (s : Ex G H) (r : Rep K G d v) (h : ∀ v G1 H1, Go NoI G H G1 H1 → Ex G1 H1 → RVok K G1 H H1 (.pl d) v → Q v H1) : Q v H := h v G H Go.refl s r
theorem end_int {K : PySem.W.Frag} {G H : Hp} {i : Int} {Q : VK} (s : Ex G H) (h : ∀ v G1 H1, Go NoI G H G1 H1 → Ex G1 H1 → RVok K G1 H H1 (.pl (.int i)) v → Q v H1) : Q (.int i) H := h _ G H Go.refl s rfl
theorem end_bl {K : PySem.W.Frag} {G H : Hp} {b : Bool} {Q : VK} (s : Ex G H) (h : ∀ v G1 H1, Go NoI G H G1 H1 → Ex G1 H1 → RVok K G1 H H1 (.pl (.bl b)) v → Q v H1) : Q (.bl b) H := h _ G H Go.refl s rfl
theorem end_str {K : PySem.W.Frag} {G H : Hp} {x : Str} {Q : VK} (s : Ex G H) (h : ∀ v G1 H1, Go NoI G H G1 H1 → Ex G1 H1 → RVok K G1 H H1 (.pl (.str x)) v → Q v H1) : Q (.str x) H := h _ G H Go.refl s rfl
theorem end_non {K : PySem.W.Frag} {G H : Hp} {Q : VK} (s : Ex G H) (h : ∀ v G1 H1, Go NoI G H G1 H1 → Ex G1 H1 → RVok K G1 H H1 (.pl .non) v → Q v H1) : Q .non H := h _ G H Go.refl s rfl
/-- a new list of plain things -/
theorem new_list {K : PySem.W.Frag} {G H : Hp} {ds : List D} {vs : List V} {p : Addr} {Q : VK} (s : Ex G H) (r : Reps K G ds vs) (hp : H p = none) (h : ∀ v G1 H1, Go NoI G H G1 H1 → Ex G1 H1 → RVok K G1 H H1 (.fr (.lst ds)) v → Q v H1) : Q (.ref p) (upd H p (.lst vs)) := by
  have gn : G p = none := by
    cases q : G p with
    | none => rfl
    | some u => rw [s p u q] at hp; cases hp
  have ex : Ex H (upd H p (.lst vs)) := fun b u e => by rw [upd_ne (ne_of_none e hp)]; exact e
  exact h _ G _ ⟨Ex.refl G, fun b u e _ _ => ex b u e, fun b u e => ⟨u, ex b u e⟩, fun _ _ e => .inl e, fun t => t.more (Ex.refl G) ex, id⟩ (s.trans ex) ⟨p, rfl, hp, gn, vs, upd_same, r⟩
/-- a new tuple of plain things -/
theorem new_tup {K : PySem.W.Frag} {G H : Hp} {ds : List D} {vs : List V} {p : Addr} {Q : VK} (s : Ex G H) (r : Reps K G ds vs) (hp : H p = none) (h : ∀ v G1 H1, Go NoI G H G1 H1 → Ex G1 H1 → RVok K G1 H H1 (.pl (.tup ds)) v → Q v H1) : Q (.ref p) (upd H p (.tup vs)) := by
  have gn : G p = none := by
    cases q : G p with
    | none => rfl
    | some u => rw [s p u q] at hp; cases hp
  have ex : Ex H (upd H p (.tup vs)) := fun b u e => by rw [upd_ne (ne_of_none e hp)]; exact e
  have exG : Ex G (upd G p (.tup vs)) := fun b u e => by rw [upd_ne (ne_of_none e gn)]; exact e
  refine h _ (upd G p (.tup vs)) _ ⟨exG, fun b u e _ _ => ex b u e, fun b u e => ⟨u, ex b u e⟩, fun b u e => ?_, fun t => t.more exG ex, nt_upd (tup_nt vs)⟩ (fun b u e => ?_) ⟨p, vs, rfl, upd_same, Reps.mono exG ds r⟩
  · by_cases hb : b = p
    · rw [hb]; exact .inr (.inl hp)
    · rw [upd_ne hb] at e; exact .inl e
  · by_cases hb : b = p
    · rw [hb, upd_same] at e; rw [hb, upd_same]; exact e
    · rw [upd_ne hb] at e; rw [upd_ne hb]; exact s b u e
theorem OpS.or {K : PySem.W.Frag} {f : Fn2} {r r' : R2} (h : ∀ (G H : Hp) (x y : V) (d1 d2 : D) (rv : RV) (Q : VK), Ex G H → Rep2 K G H d1 x → Rep2 K G H d2 y → f d1 d2 = some rv →
  (∀ v G1 H1, Go NoI G H G1 H1 → Ex G1 H1 → RVok K G1 H H1 rv v → Q v H1) → r x y H Q ∨ r' x y H Q) : OpS K f (fun x y H Q => r x y H Q ∨ r' x y H Q) := h

/-! ### arithmetic -/
def pI (i : Int) : Option RV := some (.pl (.int i))
def pB (b : Bool) : Option RV := some (.pl (.bl b))
def lineN : Nat := 16777216
theorem line_eq : sizeLine = lineN := sizeLine_eq
def dAdd : Fn2
  | .int i, .int j => pI (i + j)
  | .str a, .str b => if a.length + b.length ≤ lineN then some (.pl (.str (a ++ b))) else none
  | .lst a, .lst b => if a.length + b.length ≤ lineN then some (.fr (.lst (a ++ b))) else none
  | _, _ => none
def dSub : Fn2
  | .int i, .int j => pI (i - j)
  | _, _ => none
def smallI (i : Int) : Bool := Nat.ble i.natAbs 18446744073709551615
theorem smallI_iff {i : Int} : smallI i = true ↔ -18446744073709551616 < i ∧ i < 18446744073709551616 := by
  unfold smallI
  rw [Nat.ble_eq]
  omega
def dMul : Fn2
  | .int i, .int j => if smallI i || smallI j then pI (i * j) else none
  | .lst a, .int k => if 0 ≤ k ∧ k < 16777216 ∧ a.length * k.toNat ≤ lineN then some (.fr (.lst (List.replicate k.toNat a).flatten)) else none
  | _, _ => none
def dFdiv : Fn2
  | .int i, .int j => if 0 < j ∧ j < 1073741824 then pI (i / j) else none
  | _, _ => none
def dMod : Fn2
  | .int i, .int j => if 0 < j then pI (i % j) else none
  | _, _ => none
def dPow : Fn2
  | .int i, .int j => if (0 ≤ j ∧ j ≤ 1000000) ∧ smallI i then pI (i ^ j.toNat) else none
  | _, _ => none
def dShl : Fn2
  | .int i, .int j => if (0 ≤ j ∧ j ≤ 1000000) ∧ smallI i then pI (i * 2 ^ j.toNat) else none
  | _, _ => none
def dShr : Fn2
  | .int i, .int j => if 0 ≤ j then pI (i / 2 ^ j.toNat) else none
  | _, _ => none
/-- i & 1 -/
def dAnd : Fn2
  | .int i, .int j => if 0 ≤ i ∧ 0 ≤ j then pI ((i.toNat &&& j.toNat : Nat) : Int) else none
  | _, _ => none
section
variable {X : Cx} {K : PySem.W.Frag}
theorem int_of {G H : Hp} {i : Int} {x : V} (h : Rep2 K G H (.int i) x) : x = .int i := h
theorem rI_ok {C : Int → Int → Prop} {g : Int → Int → Int} {f : Fn2} (hf : ∀ d1 d2 rv, f d1 d2 = some rv → ∃ i j, d1 = .int i ∧ d2 = .int j ∧ C i j ∧ rv = .pl (.int (g i j))) : OpS K f (rI C fun i j => .int (g i j)) := by
  intro G H x y d1 d2 rv Q s h1 h2 e k
  obtain ⟨i, j, rfl, rfl, c, rfl⟩ := hf d1 d2 rv e
  obtain rfl := int_of h1
  obtain rfl := int_of h2
  exact ⟨i, j, rfl, rfl, c, end_int s k⟩
theorem rI0_ok {g : Int → Int → V} {w : Int → Int → D} {f : Fn2} (hw : ∀ i j (K : PySem.W.Frag) G, Rep K G (w i j) (g i j)) (hf : ∀ d1 d2 rv, f d1 d2 = some rv → ∃ i j, d1 = .int i ∧ d2 = .int j ∧ rv = .pl (w i j)) : OpS K f (rI0 g) := by
  intro G H x y d1 d2 rv Q s h1 h2 e k
  obtain ⟨i, j, rfl, rfl, rfl⟩ := hf d1 d2 rv e
  obtain rfl := int_of h1
  obtain rfl := int_of h2
  exact ⟨i, j, rfl, rfl, same_end s (hw i j K G) k⟩
abbrev rAddAll : R2 := fun x y H Q => rI0 (fun i j => .int (i + j)) x y H Q ∨ (∃ i j, x = .str i ∧ y = .str j ∧ i.length + j.length ≤ sizeLine ∧ Q (.str (i ++ j)) H) ∨ rCat x y H Q
theorem op_addAll : OpR X (binaryOp .Add) rAddAll := op_add.or (op_add_str.or op_cat)
theorem s_add : OpS K dAdd rAddAll := by
  intro G H x y d1 d2 rv Q s h1 h2 e k
  unfold dAdd at e
  split at e
  · cases e
    exact .inl ⟨_, _, h1, h2, end_int s k⟩
  · split at e
    · rename_i hl
      cases e
      exact .inr (.inl ⟨_, _, h1, h2, by rw [line_eq]; exact hl, end_str s k⟩)
    · cases e
  · split at e
    · rename_i a b hl
      cases e
      obtain ⟨p, vs, rfl, hp, r1⟩ := h1
      obtain ⟨q, ws, rfl, hq, r2⟩ := h2
      exact .inr (.inr ⟨p, q, vs, ws, rfl, rfl, hp, hq, by rw [← r1.length, ← r2.length, line_eq]; exact hl, fun t ht => new_list s (r1.append r2) ht k⟩)
    · cases e
  · cases e
theorem s_sub : OpS K dSub (rI0 fun i j => .int (i - j)) := rI0_ok (w := fun i j => .int (i - j)) (fun _ _ _ _ => rfl) fun d1 d2 rv e => by
  unfold dSub at e
  split at e
  · cases e; exact ⟨_, _, rfl, rfl, rfl⟩
  · cases e
theorem smallI_ok {i : Int} (h : smallI i = true) : -(2 ^ 64) < i ∧ i < 2 ^ 64 := by
  have := smallI_iff.mp h
  omega
abbrev rMulAll : R2 := fun x y H Q => rI CMul (fun i j => .int (i * j)) x y H Q ∨ rRep x y H Q
theorem op_mulAll : OpR X (binaryOp .Mult) rMulAll := op_mul.or op_rep
theorem reps_flat {G : Hp} {ds : List D} {vs : List V} (r : Reps K G ds vs) : ∀ n : Nat, Reps K G (List.replicate n ds).flatten (List.replicate n vs).flatten
  | 0 => rfl
  | n + 1 => by
    rw [List.replicate_succ, List.replicate_succ, List.flatten_cons, List.flatten_cons]
    exact r.append (reps_flat r n)
theorem s_mul : OpS K dMul rMulAll := by
  intro G H x y d1 d2 rv Q s h1 h2 e k
  unfold dMul at e
  split at e
  · split at e
    · rename_i i j hc
      cases e
      refine .inl ⟨_, _, h1, h2, ?_, end_int s k⟩
      rw [Bool.or_eq_true] at hc
      rcases hc with z | z
      · exact .inl (smallI_ok z)
      · exact .inr (smallI_ok z)
    · cases e
  · split at e
    · rename_i a kk hc
      cases e
      obtain ⟨p, vs, rfl, hp, r1⟩ := h1
      obtain ⟨c1, c2, c3⟩ := hc
      exact .inr ⟨p, kk, vs, rfl, h2, hp, by omega, by omega, by rw [← r1.length, line_eq]; exact c3, fun t ht => new_list s (reps_flat r1 _) ht k⟩
    · cases e
  · cases e
theorem s_fdiv : OpS K dFdiv (rI CDiv fun i j => .int (i / j)) := rI_ok fun d1 d2 rv e => by
  unfold dFdiv at e
  split at e
  · split at e
    · rename_i hc
      cases e
      exact ⟨_, _, rfl, rfl, hc, rfl⟩
    · cases e
  · cases e
theorem s_mod : OpS K dMod (rI (fun _ j => 0 < j) fun i j => .int (i % j)) := rI_ok fun d1 d2 rv e => by
  unfold dMod at e
  split at e
  · split at e
    · rename_i hc
      cases e
      exact ⟨_, _, rfl, rfl, hc, rfl⟩
    · cases e
  · cases e
theorem cpow_ok {i j : Int} (h : (0 ≤ j ∧ j ≤ 1000000) ∧ smallI i = true) : CPow i j := ⟨h.1.1, h.1.2, by have := smallI_ok h.2; omega⟩
theorem s_pow : OpS K dPow (rI CPow fun i j => .int (i ^ j.toNat)) := rI_ok fun d1 d2 rv e => by
  unfold dPow at e
  split at e
  · split at e
    · rename_i hc
      cases e
      exact ⟨_, _, rfl, rfl, cpow_ok hc, rfl⟩
    · cases e
  · cases e
theorem s_shl : OpS K dShl (rI CPow fun i j => .int (i * 2 ^ j.toNat)) := rI_ok fun d1 d2 rv e => by
  unfold dShl at e
  split at e
  · split at e
    · rename_i hc
      cases e
      exact ⟨_, _, rfl, rfl, cpow_ok hc, rfl⟩
    · cases e
  · cases e
theorem s_shr : OpS K dShr (rI (fun _ j => 0 ≤ j) fun i j => .int (i / 2 ^ j.toNat)) := rI_ok fun d1 d2 rv e => by
  unfold dShr at e
  split at e
  · split at e
    · rename_i hc
      cases e
      exact ⟨_, _, rfl, rfl, hc, rfl⟩
    · cases e
  · cases e
theorem bitAnd_nat {i j : Int} (hi : 0 ≤ i) (hj : 0 ≤ j) : Builtin.bitAnd i j = ((i.toNat &&& j.toNat : Nat) : Int) := by
  obtain ⟨n, rfl⟩ := Int.eq_ofNat_of_zero_le hi
  obtain ⟨m, rfl⟩ := Int.eq_ofNat_of_zero_le hj
  rfl
theorem s_and : OpS K dAnd (rI0 fun i j => .int (Builtin.bitAnd i j)) := rI0_ok (w := fun i j => .int (Builtin.bitAnd i j)) (fun _ _ _ _ => rfl) fun d1 d2 rv e => by
  unfold dAnd at e
  split at e
  · split at e
    · rename_i hc
      cases e
      exact ⟨_, _, rfl, rfl, by rw [bitAnd_nat hc.1 hc.2]⟩
    · cases e
  · cases e
/-! ### order -/
def dLt : Fn2
  | .int i, .int j => pB (decide (i < j))
  | _, _ => none
def dLe : Fn2
  | .int i, .int j => pB (decide (i ≤ j))
  | _, _ => none
def dGt : Fn2
  | .int i, .int j => pB (decide (j < i))
  | _, _ => none
def dGe : Fn2
  | .int i, .int j => pB (decide (j ≤ i))
  | _, _ => none
theorem s_lt : OpS K dLt (rI0 fun i j => .bl (decide (i < j))) := rI0_ok (w := fun i j => .bl (decide (i < j))) (fun _ _ _ _ => rfl) fun d1 d2 rv e => by
  unfold dLt at e
  split at e
  · cases e; exact ⟨_, _, rfl, rfl, rfl⟩
  · cases e
theorem s_le : OpS K dLe (rI0 fun i j => .bl (decide (i ≤ j))) := rI0_ok (w := fun i j => .bl (decide (i ≤ j))) (fun _ _ _ _ => rfl) fun d1 d2 rv e => by
  unfold dLe at e
  split at e
  · cases e; exact ⟨_, _, rfl, rfl, rfl⟩
  · cases e
theorem s_gt : OpS K dGt (rI0 fun i j => .bl (decide (j < i))) := rI0_ok (w := fun i j => .bl (decide (j < i))) (fun _ _ _ _ => rfl) fun d1 d2 rv e => by
  unfold dGt at e
  split at e
  · cases e; exact ⟨_, _, rfl, rfl, rfl⟩
  · cases e
theorem s_ge : OpS K dGe (rI0 fun i j => .bl (decide (j ≤ i))) := rI0_ok (w := fun i j => .bl (decide (j ≤ i))) (fun _ _ _ _ => rfl) fun d1 d2 rv e => by
  unfold dGe at e
  split at e
  · cases e; exact ⟨_, _, rfl, rfl, rfl⟩
  · cases e
/-! ### is None -/
def isNon : D → Bool
  | .non => true
  | _ => false
def dIsN : Fn2
  | d, .non => pB (isNon d)
  | _, _ => none
def dNotN : Fn2
  | d, .non => pB (!isNon d)
  | _, _ => none
theorem isNon_ok {G H : Hp} {d : D} {x : V} (h : Rep2 K G H d x) : decide (x = .non) = isNon d := by
  cases d with
  | non => obtain rfl : x = .non := h; rfl
  | bl b => obtain rfl : x = .bl b := h; rfl
  | int i => obtain rfl : x = .int i := h; rfl
  | str z => obtain rfl : x = .str z := h; rfl
  | tup ds => obtain ⟨a, vs, rfl, _⟩ := h; rfl
  | lst ds => obtain ⟨a, vs, rfl, _⟩ := h; rfl
  | flst ds => obtain ⟨a, vs, rfl, _⟩ := h; rfl
  | ftup ds => obtain ⟨a, vs, rfl, _⟩ := h; rfl
  | dic ks ds => obtain ⟨a, vs, rfl, _⟩ := h; rfl
  | ins c fs ds => obtain ⟨a, dx, vs, rfl, _⟩ := h; rfl
  | clo k cl => obtain ⟨f, c, L, rfl, _⟩ := h; rfl
theorem s_isN : OpS K dIsN (fun x y H Q => y = .non ∧ Q (.bl (decide (x = .non))) H) := by
  intro G H x y d1 d2 rv Q s h1 h2 e k
  unfold dIsN at e
  split at e
  · cases e
    obtain rfl : y = .non := h2
    exact ⟨rfl, by rw [isNon_ok h1]; exact end_bl s k⟩
  · cases e
theorem s_notN : OpS K dNotN (fun x y H Q => y = .non ∧ Q (.bl (!decide (x = .non))) H) := by
  intro G H x y d1 d2 rv Q s h1 h2 e k
  unfold dNotN at e
  split at e
  · cases e
    obtain rfl : y = .non := h2
    exact ⟨rfl, by rw [isNon_ok h1]; exact end_bl s k⟩
  · cases e
/-! ### == of data -/
mutual
def toPy : D → Option PyData
  | .non => some .none
  | .bl b => some (.bool b)
  | .int i => some (.int i)
  | .str x => some (.str x)
  | .tup ds => (toPys ds).map .tuple
  | .lst ds => (toPys ds).map .list
  | .flst ds => (toPys ds).map .list
  | .ftup ds => (toPys ds).map .tuple
  | .dic _ _ => none
  | .ins _ _ _ => none
  | .clo _ _ => none
def toPys : List D → Option (List PyData)
  | [] => some []
  | d :: ds => (toPy d).bind fun p => (toPys ds).map fun ps => p :: ps
end
mutual
theorem toPy_ok {G H : Hp} (s : Ex G H) : ∀ (d : D) {v : V} {p : PyData}, Rep K G d v → toPy d = some p → Dp K H v p
  | .non, v, p, h, e => by
    obtain rfl : v = .non := h
    cases e; exact .non
  | .bl b, v, p, h, e => by
    obtain rfl : v = .bl b := h
    cases e; exact .bl b
  | .int i, v, p, h, e => by
    obtain rfl : v = .int i := h
    cases e; exact .int i
  | .str x, v, p, h, e => by
    obtain rfl : v = .str x := h
    cases e; exact .str x
  | .tup ds, v, p, h, e => by
    obtain ⟨a, vs, rfl, hs, hr⟩ := h
    unfold toPy at e
    cases q : toPys ds with
    | none => rw [q] at e; cases e
    | some ps =>
      rw [q] at e; cases e
      exact .tup (SqT.of (s _ _ hs)) (toPys_ok s ds hr q)
  | .lst ds, v, p, h, e => by
    obtain ⟨a, vs, rfl, hs, hr⟩ := h
    unfold toPy at e
    cases q : toPys ds with
    | none => rw [q] at e; cases e
    | some ps =>
      rw [q] at e; cases e
      exact .lst (SqL.of (s _ _ hs)) (toPys_ok s ds hr q)
  | .ftup ds, v, p, h, e => by
    obtain ⟨a, vs, rfl, hs, hr⟩ := h
    unfold toPy at e
    cases q : toPys ds with
    | none => rw [q] at e; cases e
    | some ps =>
      rw [q] at e; cases e
      exact .tup (sqT_mono s hs) (toPys_ok s ds hr q)
  | .flst ds, v, p, h, e => by
    obtain ⟨a, vs, rfl, hs, hr⟩ := h
    unfold toPy at e
    cases q : toPys ds with
    | none => rw [q] at e; cases e
    | some ps =>
      rw [q] at e; cases e
      exact .lst (sqL_mono s hs) (toPys_ok s ds hr q)
  | .dic _ _, v, p, h, e => by cases e
theorem toPys_ok {G H : Hp} (s : Ex G H) : ∀ (ds : List D) {vs : List V} {ps : List PyData}, Reps K G ds vs → toPys ds = some ps → DpAll K H vs ps
  | [], vs, ps, h, e => by
    obtain rfl : vs = [] := h
    cases e; exact .nil
  | d :: ds, vs, ps, h, e => by
    obtain ⟨v, r, rfl, hv, hr⟩ := h
    unfold toPys at e
    cases q : toPy d with
    | none => rw [q] at e; cases e
    | some p =>
      rw [q] at e
      cases q2 : toPys ds with
      | none => rw [q2] at e; cases e
      | some pr =>
        rw [q2] at e; cases e
        exact .cons (toPy_ok s d hv q) (toPys_ok s ds hr q2)
end
theorem toPy2 {G H : Hp} (s : Ex G H) {d : D} {v : V} {p : PyData} (h : Rep2 K G H d v) (e : toPy d = some p) : Dp K H v p := by
  cases d with
  | non => exact toPy_ok s .non h e
  | bl b => exact toPy_ok s (.bl b) h e
  | int i => exact toPy_ok s (.int i) h e
  | str x => exact toPy_ok s (.str x) h e
  | tup ds =>
    obtain ⟨a, vs, rfl, hs, hr⟩ := h
    unfold toPy at e
    cases q : toPys ds with
    | none => rw [q] at e; cases e
    | some ps =>
      rw [q] at e; cases e
      exact .tup (SqT.of (s _ _ hs)) (toPys_ok s ds hr q)
  | lst ds =>
    obtain ⟨a, vs, rfl, hs, hr⟩ := h
    unfold toPy at e
    cases q : toPys ds with
    | none => rw [q] at e; cases e
    | some ps =>
      rw [q] at e; cases e
      exact .lst (SqL.of hs) (toPys_ok s ds hr q)
  | ftup ds =>
    obtain ⟨a, vs, rfl, hs, hr⟩ := h
    unfold toPy at e
    cases q : toPys ds with
    | none => rw [q] at e; cases e
    | some ps =>
      rw [q] at e; cases e
      exact .tup hs (toPys_ok s ds hr q)
  | flst ds =>
    obtain ⟨a, vs, rfl, hs, hr⟩ := h
    unfold toPy at e
    cases q : toPys ds with
    | none => rw [q] at e; cases e
    | some ps =>
      rw [q] at e; cases e
      exact .lst hs (toPys_ok s ds hr q)
  | dic ks ds => cases e
  | ins c fs ds => cases e
  | clo k cl => cases e
def dEqB (a b : D) : Option Bool := match toPy a, toPy b with
  | some p, some q => if SeqAt.shaped p && SeqAt.shaped q then some (PyData.eqv p q) else none
  | _, _ => none
def dEq : Fn2 := fun a b => (dEqB a b).bind pB
def dNe : Fn2 := fun a b => (dEqB a b).bind fun k => pB (!k)
theorem eqB_ok {G H : Hp} (s : Ex G H) {a b : D} {x y : V} {k : Bool} (h1 : Rep2 K G H a x) (h2 : Rep2 K G H b y) (e : dEqB a b = some k) : ∃ d e, Dp K H x d ∧ Dp K H y e ∧ SeqAt.shaped d = true ∧ SeqAt.shaped e = true ∧ PyData.eqv d e = k := by
  unfold dEqB at e
  split at e
  · rename_i p q e1 e2
    split at e
    · rename_i hs
      rw [Bool.and_eq_true] at hs
      exact ⟨p, q, toPy2 s h1 e1, toPy2 s h2 e2, hs.1, hs.2, Option.some.inj e⟩
    · cases e
  · cases e
theorem s_eq : OpS K dEq (rEqD K) := by
  intro G H x y d1 d2 rv Q s h1 h2 e k
  unfold dEq at e
  cases q : dEqB d1 d2 with
  | none => rw [q] at e; cases e
  | some c =>
    rw [q] at e; cases e
    obtain ⟨d, e, a1, a2, a3, a4, a5⟩ := eqB_ok s h1 h2 q
    exact ⟨d, e, a1, a2, a3, a4, by rw [a5]; exact end_bl s k⟩
theorem s_ne : OpS K dNe (rNeD K) := by
  intro G H x y d1 d2 rv Q s h1 h2 e k
  unfold dNe at e
  cases q : dEqB d1 d2 with
  | none => rw [q] at e; cases e
  | some c =>
    rw [q] at e; cases e
    obtain ⟨d, e, a1, a2, a3, a4, a5⟩ := eqB_ok s h1 h2 q
    exact ⟨d, e, a1, a2, a3, a4, by rw [a5]; exact end_bl s k⟩
/-! ### items -/
def dIx : Fn2
  | .tup ds, .int i => (atI ds i).map .pl
  | .lst ds, .int i => (atI ds i).map .pl
  | .flst ds, .int i => (atI ds i).map .pl
  | .ftup ds, .int i => (atI ds i).map .pl
  | .str x, .int i => if x.length ≤ lineN then (atI x.cps.toList i).map fun c => .pl (.str ⟨#[c]⟩) else none
  | _, _ => none
theorem reps_at {G : Hp} {ds : List D} {vs : List V} {i : Int} {d : D} (r : Reps K G ds vs) (e : atI ds i = some d) : ∃ v, atI vs i = some v ∧ Rep K G d v := by
  have hl := r.length
  unfold atI at e ⊢
  rw [← hl]
  cases q : ixN ds.length i with
  | none => rw [q] at e; cases e
  | some j =>
    rw [q] at e
    obtain ⟨v, h1, h2⟩ := r.get (show ds[j]? = some d from e)
    exact ⟨v, h1, h2⟩
theorem s_ix : OpS K dIx (rIx K) := by
  intro G H x y d1 d2 rv Q s h1 h2 e k
  unfold dIx at e
  split at e
  · rename_i ds i
    obtain ⟨d, e1, rfl⟩ := Option.map_eq_some_iff.mp e
    obtain ⟨a, vs, rfl, hs, r⟩ := h1
    obtain ⟨v, a1, a2⟩ := reps_at r e1
    exact .inr (.inl ⟨a, vs, i, v, rfl, h2, SqT.of (s _ _ hs), a1, same_end s a2 k⟩)
  · rename_i ds i
    obtain ⟨d, e1, rfl⟩ := Option.map_eq_some_iff.mp e
    obtain ⟨a, vs, rfl, hs, r⟩ := h1
    obtain ⟨v, a1, a2⟩ := reps_at r e1
    exact .inl ⟨a, vs, i, v, rfl, h2, SqL.of hs, a1, same_end s a2 k⟩
  · rename_i ds i
    obtain ⟨d, e1, rfl⟩ := Option.map_eq_some_iff.mp e
    obtain ⟨a, vs, rfl, hs, r⟩ := h1
    obtain ⟨v, a1, a2⟩ := reps_at r e1
    exact .inl ⟨a, vs, i, v, rfl, h2, hs, a1, same_end s a2 k⟩
  · rename_i ds i
    obtain ⟨d, e1, rfl⟩ := Option.map_eq_some_iff.mp e
    obtain ⟨a, vs, rfl, hs, r⟩ := h1
    obtain ⟨v, a1, a2⟩ := reps_at r e1
    exact .inr (.inl ⟨a, vs, i, v, rfl, h2, hs, a1, same_end s a2 k⟩)
  · rename_i z i
    split at e
    · rename_i hl
      obtain ⟨c, e1, rfl⟩ := Option.map_eq_some_iff.mp e
      exact .inr (.inr ⟨z, i, c, h1, h2, by rw [line_eq]; exact hl, e1, end_str s k⟩)
    · cases e
  · cases e
end
section
variable {X : Cx} {W : WX} {pos : Pos} {a b : Expr} {ma mb : MO}
theorem me_ix (ha : MOp X W a ma) (hb : MOp X W b mb) (hs : PlainIx b := by intro _ _; rfl) : ME X W (.Subscript a b pos) (mOp dIx ma mb) := (pe_ix ix_seq ha hb hs).imp fun _ _ _ h => op_then s_ix h
/-! ### -x -/
def ap1 (f : D → Option RV) (ρ : Env) (o : Opd) : ER RV := match o.get ρ with
  | some d => (match f d with
    | some rv => .ok rv ρ
    | none => .bad)
  | none => .bad
def mUn (f : D → Option RV) (a : MO) : M := fun ρ => bindM (a ρ) fun o ρ1 => ap1 f ρ1 o
def UnS (K : PySem.W.Frag) (f : D → Option RV) (r : V → Hp → VK → Prop) : Prop := ∀ (G H : Hp) (x : V) (d : D) (rv : RV) (Q : VK), Ex G H → Rep2 K G H d x → f d = some rv →
  (∀ v G1 H1, Go NoI G H G1 H1 → Ex G1 H1 → RVok K G1 H H1 rv v → Q v H1) → r x H Q
theorem ap1_ok {K : PySem.W.Frag} {G H : Hp} {σ : St} {ρ : Env} {f : D → Option RV} {r : V → Hp → VK → Prop} {Q : VK} {o : Opd} {x : V} (hs : UnS K f r) (r0 : Rel K G H σ ρ) (ho : OpdOk K G σ o x) (h : PostE K G H σ ρ W Q (ap1 f ρ o)) : r x H Q := by
  unfold ap1 at h
  split at h
  · rename_i d e
    split at h
    · rename_i rv e2
      exact hs G H x d rv Q r0.sub (ho.look r0 e) e2 fun v G1 H1 g s q => PostE.done r0 h g s q
    · exact h.elim
  · exact h.elim
theorem un_then {K : PySem.W.Frag} {σ : St} {H : Hp} {f : D → Option RV} {r : V → Hp → VK → Prop} {Q : VK} (hs : UnS K f r) (h : tM K W (mUn f ma) σ H Q) : tUn r (tMO K W ma) σ H Q := by
  obtain ⟨G, ρ, r0, h⟩ := h
  exact tMO_thenE (Q := Q) r0 h fun G1 H1 ρ1 o v e1 r1 ov h1 => ap1_ok hs r1 ov h1
theorem me_un {op : UnaryOp} {f : D → Option RV} {r : V → Hp → VK → Prop} (ho : UnR X (unaryOp op) r) (hs : UnS X.K f r) (ha : MOp X W a ma) : ME X W (.UnaryOp op a pos) (mUn f ma) := (pe_un ho ha).imp fun _ _ _ h => un_then hs h
def dNeg : D → Option RV
  | .int i => pI (-i)
  | _ => none
theorem s_neg {K : PySem.W.Frag} : UnS K dNeg (rU fun i => .int (-i)) := by
  intro G H x d rv Q s h e k
  unfold dNeg at e
  split at e
  · cases e
    exact ⟨_, h, end_int s k⟩
  · cases e
end
end L2.MX
end
section
set_option Elab.async false
set_option linter.all false
set_option maxRecDepth 100000
/-! MxD: arguments, displays, calls of built-ins, statements of blocks. -/
namespace L2.MX
open PySem PySem.Spec PyProof.Rows
variable [tb : TabT]

/-! ### arguments -/
def mA0 : MA := fun ρ => .ok [] ρ
def mAc (m : MO) (ms : MA) : MA := fun ρ => bindM (m ρ) fun o ρ1 => bindM (ms ρ1) fun os ρ2 => .ok (o :: os) ρ2
section
variable {X : Cx} {W : WX} {e : Expr} {es : List Expr} {m : MO} {ms : MA}
theorem ma_nil : MAr X W [] mA0 := pa_nil.imp fun σ H Q ⟨G, ρ, r, h⟩ => h [] G H Go.refl r (Sub.refl ρ) .nil
theorem ma_cons (h1 : MOp X W e m) (h2 : MAr X W es ms) (hs : starEach (e :: es) X.env = (false, eval e X.env) :: starEach es X.env := by rfl) : MAr X W (e :: es) (mAc m ms) := by
  refine (pa_cons h1 h2 hs).imp fun σ H Q ⟨G, ρ, r0, h⟩ => ?_
  refine tMO_thenA (Q := Q) r0 h fun G1 H1 ρ1 o v e1 r1 ov h1 => ?_
  refine tMA_thenA (Q := Q) r1 h1 fun G2 H2 ρ2 os vs e2 r2 ovs h2 => ?_
  exact h2 (v :: vs) G2 H2 Go.refl r2 (Sub.refl _) (.cons (ov.mono e2) ovs)
end

/-! ### a function of operands -/
def getAll (ρ : Env) : List Opd → Option (List D)
  | [] => some []
  | o :: os => (o.get ρ).bind fun d => (getAll ρ os).map fun ds => d :: ds
inductive Reps2 (K : PySem.W.Frag) (G H : Hp) : List D → List V → Prop
  | nil : Reps2 K G H [] []
  | cons {d v ds vs} : Rep2 K G H d v → Reps2 K G H ds vs → Reps2 K G H (d :: ds) (v :: vs)
def CallS (K : PySem.W.Frag) (f : List D → Option RV) (r : List V → Hp → VK → Prop) : Prop := ∀ (G H : Hp) (xs : List V) (ds : List D) (rv : RV) (Q : VK), Ex G H → Reps2 K G H ds xs → f ds = some rv →
  (∀ v G1 H1, Go NoI G H G1 H1 → Ex G1 H1 → RVok K G1 H H1 rv v → Q v H1) → r xs H Q
def apL (f : List D → Option RV) (ρ : Env) (os : List Opd) : ER RV := match getAll ρ os with
  | some ds => (match f ds with
    | some rv => .ok rv ρ
    | none => .bad)
  | none => .bad
def mCall (f : List D → Option RV) (args : MA) : M := fun ρ => bindM (args ρ) fun os ρ1 => apL f ρ1 os
section
variable {K : PySem.W.Frag} {G H : Hp} {σ : St} {ρ : Env} {W : WX}
theorem looks (r : Rel K G H σ ρ) : ∀ {os : List Opd} {vs : List V} {ds : List D}, PairAll (OpdOk K G σ) os vs → getAll ρ os = some ds → Reps2 K G H ds vs
  | _, _, _, .nil, e => by cases e; exact .nil
  | _, _, _, .cons (o := o) (os := os) h t, e => by
    unfold getAll at e
    cases q : o.get ρ with
    | none => rw [q] at e; cases e
    | some d =>
      rw [q] at e
      cases q2 : getAll ρ os with
      | none => rw [q2] at e; cases e
      | some ds' =>
        rw [q2] at e; cases e
        exact .cons (h.look r q) (looks r t q2)
theorem apL_ok {f : List D → Option RV} {r : List V → Hp → VK → Prop} {Q : VK} {os : List Opd} {vs : List V} (hs : CallS K f r) (r0 : Rel K G H σ ρ) (ho : PairAll (OpdOk K G σ) os vs) (h : PostE K G H σ ρ W Q (apL f ρ os)) : r vs H Q := by
  unfold apL at h
  split at h
  · rename_i ds e
    split at h
    · rename_i rv e2
      exact hs G H vs ds rv Q r0.sub (looks r0 ho e) e2 fun v G1 H1 g s q => PostE.done r0 h g s q
    · exact h.elim
  · exact h.elim
theorem call_then {f : List D → Option RV} {r : List V → Hp → VK → Prop} {ma : MA} {Q : VK} (hs : CallS K f r) (h : tM K W (mCall f ma) σ H Q) : tCB r (tMA K W ma) σ H Q := by
  obtain ⟨G, ρ, r0, h⟩ := h
  exact tMA_thenE (Q := Q) r0 h fun G1 H1 ρ1 os vs e1 r1 ovs h1 => apL_ok hs r1 ovs h1
end
section
variable {X : Cx} {W : WX} {e : Expr} {es : List Expr} {ma : MA} {f : List D → Option RV} {r : List V → Hp → VK → Prop} {x : Str} {p pos : Pos} {id T : String}
theorem me_callB (hc : CallR X (.builtin id) r) (hs : CallS X.K f r) (hg : Gl X x) (hm : X.mg x = none) (hv : bootBuiltins x = some (.builtin id)) (ha : MAr X W (e :: es) ma) (hn : x ≠ "__name__" := by decide) (hdb : (x == ("__debug__" : Str)) = false := by decide)
    (he : starEach (e :: es) X.env = (false, eval e X.env) :: starEach es X.env := by rfl) (hpl : (backTo pos (starEach es X.env)).any (·.1) = false := by rfl) : ME X W (.Call (.Name x p) (e :: es) [] pos) (mCall f ma) :=
  (pe_callB hc hg hm hv ha hn hdb he hpl).imp fun _ _ _ h => call_then hs h
theorem me_callTy (hc : CallR X (.type T) r) (hs : CallS X.K f r) (hg : Gl X x) (hm : X.mg x = none) (hv : bootBuiltins x = some (.type T)) (ha : MAr X W (e :: es) ma) (hn : x ≠ "__name__" := by decide) (hdb : (x == ("__debug__" : Str)) = false := by decide)
    (he : starEach (e :: es) X.env = (false, eval e X.env) :: starEach es X.env := by rfl) (hpl : (backTo pos (starEach es X.env)).any (·.1) = false := by rfl) : ME X W (.Call (.Name x p) (e :: es) [] pos) (mCall f ma) :=
  (pe_callTy hc hg hm hv ha hn hdb he hpl).imp fun _ _ _ h => call_then hs h
theorem me_callF (hc : CallR X (.builtin id) r) (hs : CallS X.K f r) (hg : Gl X x) (hm : X.mg x = some (.builtin id)) (ha : MAr X W (e :: es) ma) (hdb : (x == ("__debug__" : Str)) = false := by decide)
    (he : starEach (e :: es) X.env = (false, eval e X.env) :: starEach es X.env := by rfl) (hpl : (backTo pos (starEach es X.env)).any (·.1) = false := by rfl) : ME X W (.Call (.Name x p) (e :: es) [] pos) (mCall f ma) :=
  (pe_callBfun hc hg hm ha hdb he hpl).imp fun _ _ _ h => call_then hs h
end
/-! ### displays: what is put in is plain -/
def vals : List Opd → Option (List D)
  | [] => some []
  | .val d :: os => (vals os).map fun ds => d :: ds
  | .slot _ :: _ => none
def mTup (args : MA) : M := fun ρ => bindM (args ρ) fun os ρ1 => match vals os with
  | some ds => if ds.length ≤ 1000 then .ok (.pl (.tup ds)) ρ1 else .bad
  | none => .bad
def mLst (args : MA) : M := fun ρ => bindM (args ρ) fun os ρ1 => match vals os with
  | some ds => if ds.length ≤ 1000 then .ok (.fr (.lst ds)) ρ1 else .bad
  | none => .bad
theorem vals_reps {K : PySem.W.Frag} {G : Hp} {σ : St} : ∀ {os : List Opd} {vs : List V} {ds : List D}, PairAll (OpdOk K G σ) os vs → vals os = some ds → Reps K G ds vs
  | _, _, _, .nil, e => by cases e; exact rfl
  | _, _, _, .cons (o := o) (os := os) h t, e => by
    cases o with
    | slot i => cases e
    | val d =>
      have e : (vals os).map (fun ds => d :: ds) = some _ := e
      obtain ⟨ds', e1, rfl⟩ := Option.map_eq_some_iff.mp e
      exact ⟨_, _, rfl, h, vals_reps t e1⟩
theorem small_line {n : Nat} (h : n ≤ 1000) : n ≤ sizeLine := by rw [line_eq]; exact Nat.le_trans h (by decide)
section
variable {X : Cx} {W : WX} {es : List Expr} {ma : MA} {pos : Pos}
theorem me_tup {x1} (h : MAr X W es ma) : ME X W (.Tuple es x1 pos) (mTup ma) := by
  refine (pe_tup h).imp fun σ H Q ⟨G, ρ, r0, h⟩ => ?_
  refine tMA_thenE (Q := Q) r0 h fun G1 H1 ρ1 os vs e1 r1 ovs h1 => ?_
  split at h1
  · rename_i ds e
    split at h1
    · rename_i hl
      have r := vals_reps ovs e
      exact ⟨by rw [← r.length]; exact small_line hl, fun p hp => new_tup (K := X.K) r1.sub r hp fun v G2 H2 g s q => PostE.done r1 h1 g s q⟩
    · exact h1.elim
  · exact h1.elim
theorem me_lst (h : MAr X W es ma) : ME X W (.List es pos) (mLst ma) := by
  refine (pe_lst h).imp fun σ H Q ⟨G, ρ, r0, h⟩ => ?_
  refine tMA_thenE (Q := Q) r0 h fun G1 H1 ρ1 os vs e1 r1 ovs h1 => ?_
  split at h1
  · rename_i ds e
    split at h1
    · rename_i hl
      have r := vals_reps ovs e
      exact ⟨by rw [← r.length]; exact small_line hl, fun p hp => new_list (K := X.K) r1.sub r hp fun v G2 H2 g s q => PostE.done r1 h1 g s q⟩
    · exact h1.elim
  · exact h1.elim
end
/-! ### the built-ins' functions -/
def dLen : List D → Option RV
  | [.tup ds] => pI ds.length
  | [.lst ds] => pI ds.length
  | [.flst ds] => pI ds.length
  | [.ftup ds] => pI ds.length
  | [.str x] => if x.length ≤ lineN then pI x.length else none
  | _ => none
def dAbs : List D → Option RV
  | [.int i] => pI (if i < 0 then -i else i)
  | _ => none
def dInt : List D → Option RV
  | [.int i] => pI i
  | [.bl b] => pI (if b then 1 else 0)
  | _ => none
def dList : List D → Option RV
  | [.lst ds] => some (.fr (.lst ds))
  | [.flst ds] => some (.fr (.lst ds))
  | [.ftup ds] => some (.fr (.lst ds))
  | [.tup ds] => some (.fr (.lst ds))
  | _ => none
def dTuple : List D → Option RV
  | [.lst ds] => some (.pl (.tup ds))
  | [.flst ds] => some (.pl (.tup ds))
  | [.tup ds] => some (.pl (.tup ds))
  | _ => none
/-- a list of ints -/
def intsOf : List D → Option (List Int)
  | [] => some []
  | .int i :: ds => (intsOf ds).map fun ns => i :: ns
  | _ => none
def boolsOf : List D → Option (List Bool)
  | [] => some []
  | .bl i :: ds => (boolsOf ds).map fun ns => i :: ns
  | _ => none
def dSum : List D → Option RV
  | [.lst ds] => (intsOf ds).bind fun ns => pI ns.sum
  | _ => none
def dAll : List D → Option RV
  | [.lst ds] => (boolsOf ds).bind fun ns => pB (ns.all id)
  | _ => none
def dAny : List D → Option RV
  | [.lst ds] => (boolsOf ds).bind fun ns => pB (ns.any id)
  | _ => none
section
variable {X : Cx} {K : PySem.W.Frag}
theorem reps2_1 {G H : Hp} {d : D} {xs : List V} (h : Reps2 K G H [d] xs) : ∃ v, xs = [v] ∧ Rep2 K G H d v := by
  cases h with
  | cons h t =>
    cases t
    exact ⟨_, rfl, h⟩
theorem reps2_2 {G H : Hp} {d e : D} {xs : List V} (h : Reps2 K G H [d, e] xs) : ∃ v w, xs = [v, w] ∧ Rep2 K G H d v ∧ Rep2 K G H e w := by
  cases h with
  | cons h t =>
    cases t with
    | cons h2 t2 =>
      cases t2
      exact ⟨_, _, rfl, h, h2⟩
theorem ints_reps {G : Hp} : ∀ {ds : List D} {vs : List V} {ns : List Int}, intsOf ds = some ns → Reps K G ds vs → vs = ns.map V.int
  | [], vs, ns, e, h => by
    obtain rfl : vs = [] := h
    cases e; rfl
  | d :: ds, vs, ns, e, h => by
    obtain ⟨v, r, rfl, hv, hr⟩ := h
    cases d with
    | int i =>
      obtain ⟨ms, e1, rfl⟩ := Option.map_eq_some_iff.mp (show (intsOf ds).map (fun ns => i :: ns) = some ns from e)
      obtain rfl : v = .int i := hv
      rw [ints_reps e1 hr]; rfl
    | _ => cases e
theorem bools_reps {G : Hp} : ∀ {ds : List D} {vs : List V} {ns : List Bool}, boolsOf ds = some ns → Reps K G ds vs → vs = ns.map V.bl
  | [], vs, ns, e, h => by
    obtain rfl : vs = [] := h
    cases e; rfl
  | d :: ds, vs, ns, e, h => by
    obtain ⟨v, r, rfl, hv, hr⟩ := h
    cases d with
    | bl i =>
      obtain ⟨ms, e1, rfl⟩ := Option.map_eq_some_iff.mp (show (boolsOf ds).map (fun ns => i :: ns) = some ns from e)
      obtain rfl : v = .bl i := hv
      rw [bools_reps e1 hr]; rfl
    | _ => cases e
theorem s_len : CallS K dLen (fun xs H Q => ∃ x n, xs = [x] ∧ LenV K x H n ∧ Q (.int (n : Nat)) H) := by
  intro G H xs ds rv Q s h e k
  unfold dLen at e
  split at e
  · cases e
    obtain ⟨v, rfl, a, vs, rfl, hs, r⟩ := reps2_1 h
    rename_i ds
    exact ⟨_, ds.length, rfl, .inr ⟨vs, SqT.of (s _ _ hs), r.length⟩, end_int s k⟩
  · cases e
    obtain ⟨v, rfl, a, vs, rfl, hs, r⟩ := reps2_1 h
    rename_i ds
    exact ⟨_, ds.length, rfl, .inl ⟨vs, SqL.of hs, r.length⟩, end_int s k⟩
  · cases e
    obtain ⟨v, rfl, a, vs, rfl, hs, r⟩ := reps2_1 h
    rename_i ds
    exact ⟨_, ds.length, rfl, .inl ⟨vs, hs, r.length⟩, end_int s k⟩
  · cases e
    obtain ⟨v, rfl, a, vs, rfl, hs, r⟩ := reps2_1 h
    rename_i ds
    exact ⟨_, ds.length, rfl, .inr ⟨vs, hs, r.length⟩, end_int s k⟩
  · split at e
    · rename_i x hl
      cases e
      obtain ⟨v, rfl, hv⟩ := reps2_1 h
      obtain rfl : v = .str x := hv
      exact ⟨_, x.length, rfl, ⟨by rw [line_eq]; exact hl, rfl⟩, end_int s k⟩
    · cases e
  · cases e
theorem s_abs : CallS K dAbs (fun xs H Q => ∃ i, xs = [.int i] ∧ Q (.int (if i < 0 then -i else i)) H) := by
  intro G H xs ds rv Q s h e k
  unfold dAbs at e
  split at e
  · cases e
    rename_i i
    obtain ⟨v, rfl, hv⟩ := reps2_1 h
    obtain rfl : v = .int i := hv
    exact ⟨_, rfl, end_int s k⟩
  · cases e
theorem s_int : CallS K dInt (fun xs H Q => (∃ i, xs = [.int i] ∧ Q (.int i) H) ∨ ∃ k, xs = [.bl k] ∧ Q (.int (if k then 1 else 0)) H) := by
  intro G H xs ds rv Q s h e k
  unfold dInt at e
  split at e
  · cases e
    rename_i i
    obtain ⟨v, rfl, hv⟩ := reps2_1 h
    obtain rfl : v = .int i := hv
    exact .inl ⟨_, rfl, end_int s k⟩
  · cases e
    rename_i i
    obtain ⟨v, rfl, hv⟩ := reps2_1 h
    obtain rfl : v = .bl i := hv
    exact .inr ⟨_, rfl, end_int s k⟩
  · cases e
theorem s_list : CallS K dList (fun xs H Q => ∃ p ys, xs = [.ref p] ∧ (SqL K H p ys ∨ SqT K H p ys) ∧ ∀ l, H l = none → Q (.ref l) (upd H l (.lst ys))) := by
  intro G H xs ds rv Q s h e k
  unfold dList at e
  split at e
  · cases e
    obtain ⟨v, rfl, a, vs, rfl, hs, r⟩ := reps2_1 h
    exact ⟨a, vs, rfl, .inl (SqL.of hs), fun l hl => new_list s r hl k⟩
  · cases e
    obtain ⟨v, rfl, a, vs, rfl, hs, r⟩ := reps2_1 h
    exact ⟨a, vs, rfl, .inl hs, fun l hl => new_list s r hl k⟩
  · cases e
    obtain ⟨v, rfl, a, vs, rfl, hs, r⟩ := reps2_1 h
    exact ⟨a, vs, rfl, .inr hs, fun l hl => new_list s r hl k⟩
  · cases e
    obtain ⟨v, rfl, a, vs, rfl, hs, r⟩ := reps2_1 h
    exact ⟨a, vs, rfl, .inr (SqT.of (s _ _ hs)), fun l hl => new_list s r hl k⟩
  · cases e
theorem s_tuple : CallS K dTuple (fun xs H Q => ∃ p ys, xs = [.ref p] ∧ ((SqL K H p ys ∧ ∀ l, H l = none → Q (.ref l) (upd H l (.tup ys))) ∨ (SqT K H p ys ∧ Q (.ref p) H))) := by
  intro G H xs ds rv Q s h e k
  unfold dTuple at e
  split at e
  · cases e
    obtain ⟨v, rfl, a, vs, rfl, hs, r⟩ := reps2_1 h
    exact ⟨a, vs, rfl, .inl ⟨SqL.of hs, fun l hl => new_tup s r hl k⟩⟩
  · cases e
    obtain ⟨v, rfl, a, vs, rfl, hs, r⟩ := reps2_1 h
    exact ⟨a, vs, rfl, .inl ⟨hs, fun l hl => new_tup s r hl k⟩⟩
  · cases e
    obtain ⟨v, rfl, a, vs, rfl, hs, r⟩ := reps2_1 h
    exact ⟨a, vs, rfl, .inr ⟨SqT.of (s _ _ hs), k (.ref a) G H Go.refl s ⟨a, vs, rfl, hs, r⟩⟩⟩
  · cases e
theorem s_sum : CallS K dSum (rSum K) := by
  intro G H xs ds rv Q s h e k
  unfold dSum at e
  split at e
  · rename_i es
    cases q : intsOf es with
    | none => rw [q] at e; cases e
    | some ns =>
      rw [q] at e; cases e
      obtain ⟨v, rfl, a, vs, rfl, hs, r⟩ := reps2_1 h
      rw [ints_reps q r] at hs
      exact ⟨a, ns, rfl, SqL.of hs, end_int s k⟩
  · cases e
theorem s_all : CallS K dAll (rAll K) := by
  intro G H xs ds rv Q s h e k
  unfold dAll at e
  split at e
  · rename_i es
    cases q : boolsOf es with
    | none => rw [q] at e; cases e
    | some ns =>
      rw [q] at e; cases e
      obtain ⟨v, rfl, a, vs, rfl, hs, r⟩ := reps2_1 h
      rw [bools_reps q r] at hs
      exact ⟨a, ns, rfl, SqL.of hs, end_bl s k⟩
  · cases e
theorem s_any : CallS K dAny (rAny K) := by
  intro G H xs ds rv Q s h e k
  unfold dAny at e
  split at e
  · rename_i es
    cases q : boolsOf es with
    | none => rw [q] at e; cases e
    | some ns =>
      rw [q] at e; cases e
      obtain ⟨v, rfl, a, vs, rfl, hs, r⟩ := reps2_1 h
      rw [bools_reps q r] at hs
      exact ⟨a, ns, rfl, SqL.of hs, end_bl s k⟩
  · cases e
end
end L2.MX
end
section
set_option Elab.async false
set_option linter.all false
set_option maxRecDepth 100000
/-! MxS: blocks, assignments, stores, control. -/
namespace L2.MX
open PySem PySem.Spec PyProof.Rows
variable [tb : TabT]

/-! ### blocks -/
def sNil : MS := fun ρ => .nx ρ
def sSeq (a b : MS) : MS := fun ρ => match a ρ with
  | .nx ρ1 => b ρ1
  | r => r
section
variable {X : Cx} {W : WX} {st : Stmt} {rest : List Stmt} {a b : MS} {pos : Pos}
theorem PostS.nx_only {K : PySem.W.Frag} {G H : Hp} {σ : St} {ρ : Env} {D : Ends} {nx : St → Hp → Prop} {e : SR} (h : PostS K G H σ ρ W D e) (hn : ∀ ρ1, e ≠ .nx ρ1) : PostS K G H σ ρ W { D with nx := nx } e := by
  cases e with
  | nx ρ1 => exact (hn ρ1 rfl).elim
  | _ => exact h
theorem mss_nil : MSs X W [] sNil := pss_nil.imp fun D σ H ⟨G, ρ, r, h⟩ => h σ G H (Ss.refl _ _ _ _) r
theorem mss_cons (h1 : MSt X W st a) (h2 : MSs X W rest b) : MSs X W (st :: rest) (sSeq a b) := by
  refine (pss_cons h1 h2).imp fun D σ H ⟨G, ρ, r, h⟩ => ⟨G, ρ, r, ?_⟩
  unfold sSeq at h
  cases e : a ρ with
  | nx ρ1 =>
    rw [e] at h
    exact fun σ1 G1 H1 s r1 => ⟨G1, ρ1, r1, PostS.after s h⟩
  | bad => rw [e] at h; exact h
  | br ρ1 => rw [e] at h; exact h
  | ct ρ1 => rw [e] at h; exact h
  | rt x ρ1 => rw [e] at h; exact h
  | ex x ρ1 => rw [e] at h; exact h
theorem mss_one (h : MSt X W st a) : MSs X W [st] a := pss_one h
/-- code that is never reached -/
def sNever : MS := fun _ => .bad
theorem ms_never : MSt X W st sNever := ps_never.imp fun D σ H ⟨G, ρ, r, h⟩ => h
theorem mss_never {sts : List Stmt} : MSs X W sts sNever := pss_never.imp fun D σ H ⟨G, ρ, r, h⟩ => h
theorem ms_pass : MSt X W (.Pass pos) sNil := ps_pass.imp fun D σ H ⟨G, ρ, r, h⟩ => h σ G H (Ss.refl _ _ _ _) r
def sBrk : MS := fun ρ => .br ρ
def sCont : MS := fun ρ => .ct ρ
theorem ms_break : MSt X W (.Break pos) sBrk := ps_break.imp fun D σ H ⟨G, ρ, r, h⟩ => h σ G H (Ss.refl _ _ _ _) r
theorem ms_continue : MSt X W (.Continue pos) sCont := ps_continue.imp fun D σ H ⟨G, ρ, r, h⟩ => h σ G H (Ss.refl _ _ _ _) r
/-! ### return, an expression alone, if -/
def ofE (e : ER RV) (k : RV → Env → SR) : SR := match e with
  | .bad => .bad
  | .ok r ρ => k r ρ
  | .ex x ρ => .ex x ρ
def ofT (e : ER Bool) (k : Bool → Env → SR) : SR := match e with
  | .bad => .bad
  | .ok r ρ => k r ρ
  | .ex x ρ => .ex x ρ
def sRet (m : M) : MS := fun ρ => ofE (m ρ) fun r ρ1 => .rt r ρ1
def sRetN : MS := fun ρ => .rt (.pl .non) ρ
def sExpr (m : M) : MS := fun ρ => ofE (m ρ) fun _ ρ1 => .nx ρ1
def sIf (c : MT) (a b : MS) : MS := fun ρ => ofT (c ρ) fun k ρ1 => if k = true then a ρ1 else b ρ1
theorem tM_thenS {K : PySem.W.Frag} {G H : Hp} {σ : St} {ρ : Env} {D : Ends} {m : M} {k : RV → Env → SR} {R : V → Hp → Prop} (r0 : Rel K G H σ ρ) (h : PostS K G H σ ρ W D (ofE (m ρ) k))
    (hk : ∀ G1 H1 ρ1 rv v, Go (Own σ ρ) G H G1 H1 → Sub ρ ρ1 → Rel K G1 H1 σ ρ1 → RVok K G1 H H1 rv v → PostS K G H σ ρ W D (k rv ρ1) → R v H1) : tM K W m σ H R := by
  refine ⟨G, ρ, r0, ?_⟩
  cases e : m ρ with
  | bad =>
    rw [e] at h
    exact h
  | ex x ρ1 =>
    rw [e] at h
    exact fun cls d G1 H1 g r s q => h cls d σ G1 H1 (Ss.ofE g s) r q
  | ok rv ρ1 =>
    rw [e] at h
    exact fun v G1 H1 g r s q => hk G1 H1 ρ1 rv v g s r q h
theorem tMT_thenS {K : PySem.W.Frag} {G H : Hp} {σ : St} {ρ : Env} {D : Ends} {m : MT} {k : Bool → Env → SR} {R : Bool → Hp → Prop} (r0 : Rel K G H σ ρ) (h : PostS K G H σ ρ W D (ofT (m ρ) k))
    (hk : ∀ G1 H1 ρ1 b, Go (Own σ ρ) G H G1 H1 → Sub ρ ρ1 → Rel K G1 H1 σ ρ1 → PostS K G1 H1 σ ρ1 W D (k b ρ1) → R b H1) : tMT K W m σ H R := by
  refine ⟨G, ρ, r0, ?_⟩
  cases e : m ρ with
  | bad =>
    rw [e] at h
    exact h
  | ex x ρ1 =>
    rw [e] at h
    exact fun cls d G1 H1 g r s q => h cls d σ G1 H1 (Ss.ofE g s) r q
  | ok rv ρ1 =>
    rw [e] at h
    exact fun G1 H1 g r s => hk G1 H1 ρ1 rv g s r (PostS.after (Ss.ofE g s) h)
theorem ms_ret {e : Expr} {m : M} (h : ME X W e m) : MSt X W (.Return (some e) pos) (sRet m) := by
  refine (ps_ret h).imp fun D σ H ⟨G, ρ, r, h⟩ => ?_
  exact tM_thenS (D := D) r h fun G1 H1 ρ1 rv v g s r1 q h1 => h1 σ v G1 H1 (Ss.ofE g s) r1 q
theorem ms_retN : MSt X W (.Return none pos) sRetN := ps_retN.imp fun D σ H ⟨G, ρ, r, h⟩ => h σ .non G H (Ss.refl _ _ _ _) r rfl
theorem ms_expr {e : Expr} {m : M} (h : ME X W e m) (hs : swapsWith e none pos.line X.env = pure false := by rfl) : MSt X W (.Expr e pos) (sExpr m) := by
  refine (ps_expr h hs).imp fun D σ H ⟨G, ρ, r, h⟩ => ?_
  exact tM_thenS (D := D) r h fun G1 H1 ρ1 rv v g s r1 q h1 => h1 σ G1 H1 (Ss.ofE g s) r1
theorem ms_if {c : Expr} {xs ys : List Stmt} {tc : MT} (hc : MTe X W c tc) (ha : MSs X W xs a) (hb : MSs X W ys b) : MSt X W (.If c xs ys pos) (sIf tc a b) := by
  refine (ps_if hc ha hb).imp fun D σ H ⟨G, ρ, r, h⟩ => ?_
  refine tMT_thenS (D := D) r h fun G1 H1 ρ1 k g s r1 h1 => ?_
  cases k with
  | true => exact ⟨G1, ρ1, r1, h1⟩
  | false => exact ⟨G1, ρ1, r1, h1⟩
end

/-! ### slots set -/
def cellOf : RV → Cell
  | .pl d => .pl d
  | .fr d => .ow d
def isIo : Option Cell → Bool
  | some (.io _) => true
  | none => true
  | _ => false
def putC (i : Nat) (r : RV) (ρ : Env) : Option Env := if isIo ρ[i]? then none else some (ρ.set i (cellOf r))
section
variable {K : PySem.W.Frag} {G H G1 H1 : Hp} {σ : St} {ρ ρ1 ρ2 : Env}
theorem set_at {α : Type} {l : List α} {i j : Nat} {x c : α} (h : (l.set i x)[j]? = some c) : (j = i ∧ c = x) ∨ (j ≠ i ∧ l[j]? = some c) := by
  by_cases hj : j = i
  · subst hj
    by_cases hl : j < l.length
    · rw [List.getElem?_set_self hl] at h
      exact .inl ⟨rfl, (Option.some.inj h).symm⟩
    · rw [List.getElem?_eq_none (by simpa using hl)] at h; cases h
  · rw [List.getElem?_set_ne (Ne.symm hj)] at h
    exact .inr ⟨hj, h⟩
/-- a name is set: plain, or a thing that none else holds (fresh since (G, H)) -/
theorem Rel.put {i : Nat} {rv : RV} {v : V} (r0 : Rel K G H σ ρ) (g : Go (Own σ ρ) G H G1 H1) (s : Sub ρ ρ1) (r : Rel K G1 H1 σ ρ1) (q : RVok K G1 H H1 rv v) (e : putC i rv ρ1 = some ρ2) :
    Rel K G1 H1 (σ.set i (some v)) ρ2 ∧ Ss G H σ ρ G1 H1 (σ.set i (some v)) ρ2 := by
  unfold putC at e
  split at e
  · cases e
  rename_i hio
  have e := (Option.some.inj e).symm
  subst e
  have hi : i < ρ1.length := by
    cases z : ρ1[i]? with
    | none => rw [z] at hio; exact (hio rfl).elim
    | some c => exact (List.getElem?_eq_some_iff.mp z).1
  have hiσ : i < σ.length := by rw [r.len]; exact hi
  have noio : ∀ d, ρ1[i]? ≠ some (.io d) := fun d z => by rw [z] at hio; exact hio rfl
  have at_i : (σ.set i (some v))[i]? = some (some v) := List.getElem?_set_self hiσ
  have at_j : ∀ j, j ≠ i → (σ.set i (some v))[j]? = σ[j]? := fun j hj => List.getElem?_set_ne (Ne.symm hj)
  -- who owns
  have own : ∀ (j : Nat) (d : D), Owns (ρ1.set i (cellOf rv)) j d → (j = i ∧ rv = .fr d) ∨ (j ≠ i ∧ Owns ρ1 j d) := fun j d h => by
    rcases h with h | h
    · rcases set_at h with ⟨z, y⟩ | ⟨n, z⟩
      · cases rv with
        | pl d' => cases y
        | fr d' => cases y; exact .inl ⟨z, rfl⟩
      · exact .inr ⟨n, .inl z⟩
    · rcases set_at h with ⟨z, y⟩ | ⟨n, z⟩
      · cases rv with
        | pl d' => cases y
        | fr d' => cases y
      · exact .inr ⟨n, .inr z⟩
  -- a fresh one is none of the owned
  have apart : ∀ (d : D) (a : Addr), rv = .fr d → v = .ref a → ∀ (j : Nat) (c : D), Owns ρ1 j c → σ[j]? ≠ some (some (.ref a)) := fun d a e1 e2 j c o z => by
    subst e1 e2
    obtain ⟨b, e3, n, _⟩ := q
    cases e3
    obtain ⟨c', o'⟩ := s.owns o
    obtain ⟨u, hu⟩ := r0.alive ⟨j, c', o', z⟩
    rw [n] at hu; cases hu
  refine ⟨⟨r.sub, by simpa using r.len, fun j d h => ?_, fun j d h => ?_, fun j k d d' a h1 h2 e1 e2 => ?_, r.ntb, r.tabs⟩, g, fun a h => ?_, fun j d h => ?_⟩
  · rcases set_at h with ⟨rfl, y⟩ | ⟨n, z⟩
    · cases rv with
      | pl d' => cases y; exact ⟨v, at_i, q⟩
      | fr d' => cases y
    · obtain ⟨w, e1, e2⟩ := r.pl j d z
      exact ⟨w, (at_j j n).trans e1, e2⟩
  · rcases own j d h with ⟨rfl, y⟩ | ⟨n, o⟩
    · subst y
      obtain ⟨a, e1, _, n, t⟩ := q
      exact ⟨a, by rw [at_i, e1], n, t⟩
    · obtain ⟨a, e1, n1, t⟩ := r.ow j d o
      exact ⟨a, (at_j j n).trans e1, n1, t⟩
  · rcases own j d h1 with ⟨rfl, y⟩ | ⟨n, o⟩
    · rcases own k d' h2 with ⟨rfl, _⟩ | ⟨n2, o2⟩
      · rfl
      · rw [at_i] at e1
        rw [at_j k n2] at e2
        exact (apart d a y (Option.some.inj (Option.some.inj e1)) k d' o2 e2).elim
    · rw [at_j j n] at e1
      rcases own k d' h2 with ⟨rfl, y⟩ | ⟨n2, o2⟩
      · rw [at_i] at e2
        exact (apart d' a y (Option.some.inj (Option.some.inj e2)) j d o e1).elim
      · rw [at_j k n2] at e2
        exact r.dis j k d d' a o o2 e1 e2
  · obtain ⟨j, d, o, e1⟩ := h
    rcases own j d o with ⟨rfl, y⟩ | ⟨n, o1⟩
    · subst y
      obtain ⟨b, e2, n, _⟩ := q
      rw [at_i] at e1
      have : v = .ref a := Option.some.inj (Option.some.inj e1)
      rw [e2] at this; cases this
      exact .inr n
    · rw [at_j j n] at e1
      exact .inl (s.own ⟨j, d, o1, e1⟩)
  · rcases set_at h with ⟨rfl, y⟩ | ⟨n, z⟩
    · cases rv <;> cases y
    · exact ⟨at_j j n, (s j).2 d z⟩
end
def sSet (i : Nat) (m : M) : MS := fun ρ => ofE (m ρ) fun r ρ1 => match putC i r ρ1 with
  | some ρ2 => .nx ρ2
  | none => .bad
section
variable {X : Cx} {W : WX} {pos : Pos}
theorem asg_then {K : PySem.W.Frag} {m : M} {i : Nat} {D : Ends} {σ : St} {H : Hp} (h : tMS K W (sSet i m) D σ H) : tAsg (tM K W m) (gName i) D σ H := by
  obtain ⟨G, ρ, r, h⟩ := h
  refine tM_thenS (D := D) r h fun G1 H1 ρ1 rv v g s r1 q h1 => ?_
  split at h1
  · rename_i ρ2 e
    obtain ⟨r2, s2⟩ := Rel.put r g s r1 q e
    exact h1 _ G1 H1 s2 r2
  · exact h1.elim
theorem ms_set {i : Nat} {x : Str} {e : Expr} {m : M} {pos' : Pos} (hN : X.N.Nodup) (hi : X.N[i]? = some x) (hx : Loc X.env.scope x) (he : ME X W e m) (hs : swapsWith e (some (.Name x pos')) pos.line X.env = pure false := by rfl)
    (hf : X.fn x = true ∨ X.env.scope.names.lookup x = some .local := by first | exact .inl rfl | exact .inr rfl | assumption) : MSt X W (.Assign [.Name x pos'] e pos) (sSet i m) := (ps_set hN hi hx he hs hf).imp fun _ _ _ h => asg_then h
end

/-! ### targets of plain data: names, tuples of them -/
abbrev G1 := D → Env → Option Env
def gNm (i : Nat) : G1 := fun d ρ => putC i (.pl d) ρ
def gAll : List G1 → List D → Env → Option Env
  | [], [], ρ => some ρ
  | g :: gs, d :: ds, ρ => (g d ρ).bind fun ρ1 => gAll gs ds ρ1
  | _, _, _ => none
def gTp (gs : List G1) : G1 := fun d ρ => match d with
  | .tup ds => gAll gs ds ρ
  | .ftup ds => gAll gs ds ρ
  | .lst ds => gAll gs ds ρ
  | .flst ds => gAll gs ds ρ
  | _ => none
/-- ss: the slots that are set -/
def Out (ss : List Nat) (σ σ1 : St) : Prop := σ1.length = σ.length ∧ ∀ j, j ∉ ss → σ1[j]? = σ[j]?
theorem Out.refl (ss : List Nat) (σ : St) : Out ss σ σ := ⟨rfl, fun _ _ => rfl⟩
theorem Out.trans {s1 s2 : List Nat} {a b c : St} (h : Out s1 a b) (k : Out s2 b c) : Out (s1 ++ s2) a c := ⟨k.1.trans h.1, fun j hj => (k.2 j fun z => hj (List.mem_append_right _ z)).trans (h.2 j fun z => hj (List.mem_append_left _ z))⟩
def tMG (K : PySem.W.Frag) (g : G1) (ss : List Nat) : TG := fun v σ H Q => ∃ G ρ d ρ1, Rel K G H σ ρ ∧ Rep K G d v ∧ g d ρ = some ρ1 ∧ ∀ σ1, Ss G H σ ρ G H σ1 ρ1 → Rel K G H σ1 ρ1 → Out ss σ σ1 ∧ Sub ρ ρ1 → Q σ1 H
def tMGs (K : PySem.W.Frag) (gs : List G1) (ss : List Nat) : TGs := fun vs σ H Q => ∃ G ρ ds ρ1, Rel K G H σ ρ ∧ Reps K G ds vs ∧ gAll gs ds ρ = some ρ1 ∧ ∀ σ1, Ss G H σ ρ G H σ1 ρ1 → Rel K G H σ1 ρ1 → Out ss σ σ1 ∧ Sub ρ ρ1 → Q σ1 H
abbrev MG (X : Cx) (e : Expr) (g : G1) (ss : List Nat) : Prop := PG X e (tMG X.K g ss)
abbrev MGs (X : Cx) (es : List Expr) (gs : List G1) (ss : List Nat) : Prop := PGs X es (tMGs X.K gs ss)
theorem _root_.L2.PG.imp {X : Cx} {e : Expr} {t t' : TG} (h : PG X e t) (k : ∀ v σ H Q, t' v σ H Q → t v σ H Q) : PG X e t' := ⟨fun pins s σ H v u Q I r q => h.run pins s σ H v u Q I r (k v σ H Q q)⟩
theorem _root_.L2.PGs.imp {X : Cx} {e : List Expr} {t t' : TGs} (h : PGs X e t) (k : ∀ v σ H Q, t' v σ H Q → t v σ H Q) : PGs X e t' := ⟨fun pins s σ H v u Q I r q => h.run pins s σ H v u Q I r (k v σ H Q q)⟩
section
variable {X : Cx} {W : WX} {pos : Pos}
theorem putC_sub {i : Nat} {d : D} {ρ ρ1 : Env} (e : putC i (.pl d) ρ = some ρ1) : Sub ρ ρ1 := by
  unfold putC at e
  split at e
  · cases e
  have e := (Option.some.inj e).symm
  subst e
  refine fun j => ⟨fun d' h => ?_, fun d' h => ?_⟩
  · rcases set_at h with ⟨_, y⟩ | ⟨_, z⟩
    · cases y
    · exact ⟨d', z⟩
  · rcases set_at h with ⟨_, y⟩ | ⟨_, z⟩
    · cases y
    · exact ⟨d', z⟩
theorem mg_name {i : Nat} {x : Str} (hN : X.N.Nodup) (hi : X.N[i]? = some x) (hx : Loc X.env.scope x) (hf : X.fn x = true ∨ X.env.scope.names.lookup x = some .local := by first | exact .inl rfl | exact .inr rfl | assumption) : MG X (.Name x pos) (gNm i) [i] :=
  (pg_name hN hi hx hf).imp fun v σ H Q ⟨G, ρ, d, ρ1, r, q, e, h⟩ => by
    obtain ⟨r2, s2⟩ := Rel.put (rv := .pl d) r Go.refl (Sub.refl ρ) r q e
    exact h _ s2 r2 ⟨⟨by simp, fun j hj => List.getElem?_set_ne (fun z => hj (by simp [z]))⟩, putC_sub e⟩
theorem mgs_nil : MGs X [] [] [] := pgs_nil.imp fun v σ H Q ⟨G, ρ, ds, ρ1, r, q, e, h⟩ => by
  cases ds with
  | nil =>
    obtain rfl : v = [] := q
    cases e
    exact ⟨rfl, h σ (Ss.refl _ _ _ _) r ⟨Out.refl _ _, Sub.refl _⟩⟩
  | cons d ds => cases e
theorem mgs_cons {e : Expr} {es : List Expr} {g : G1} {gs : List G1} {s1 s2 : List Nat} (h1 : MG X e g s1) (h2 : MGs X es gs s2)
    (hs : (assignEach (e :: es) X.env).map (·.2) = assign e X.env :: (assignEach es X.env).map (·.2) := by rfl) : MGs X (e :: es) (g :: gs) (s1 ++ s2) := (pgs_cons h1 h2 hs).imp fun v σ H Q ⟨G, ρ, ds, ρ1, r, q, e, h⟩ => by
  cases ds with
  | nil => cases e
  | cons d ds =>
    obtain ⟨w, ws, rfl, hw, hws⟩ := q
    have e : (g d ρ).bind (fun ρ1 => gAll gs ds ρ1) = some ρ1 := e
    cases q1 : g d ρ with
    | none => rw [q1] at e; cases e
    | some ρ2 =>
      rw [q1] at e
      refine ⟨w, ws, rfl, G, ρ, d, ρ2, r, hw, q1, fun σ1 s1 r1 o1 => ?_⟩
      exact ⟨G, ρ2, ds, ρ1, r1, hws, e, fun σ2 s2 r2 o2 => h σ2 (s1.trans s2) r2 ⟨o1.1.trans o2.1, o1.2.trans o2.2⟩⟩
theorem gAll_len : ∀ (gs : List G1) (ds : List D) (ρ ρ1 : Env), gAll gs ds ρ = some ρ1 → gs.length = ds.length := by
  intro gs
  induction gs with
  | nil =>
    intro ds ρ ρ1 e
    cases ds with
    | nil => rfl
    | cons => cases e
  | cons g gs ih =>
    intro ds ρ ρ1 e
    cases ds with
    | nil => cases e
    | cons d ds =>
      have e : (g d ρ).bind (fun ρ1 => gAll gs ds ρ1) = some ρ1 := e
      cases q1 : g d ρ with
      | none => rw [q1] at e; cases e
      | some ρ2 =>
        rw [q1] at e
        simp [ih ds ρ2 ρ1 e]
theorem _root_.L2.PG.or {X : Cx} {e : Expr} {t t' : TG} (h : PG X e t) (h' : PG X e t') : PG X e (fun v σ H Q => t v σ H Q ∨ t' v σ H Q) := ⟨fun pins s σ H v u Q I r q => q.elim (fun q => h.run pins s σ H v u Q I r q) fun q => h'.run pins s σ H v u Q I r q⟩
theorem mg_tup {es : List Expr} {k : Nat} {gs : List G1} {ss : List Nat} {n : Nat} (hc : X.calm = true) (h : MGs X es gs ss) (hl : gs.length = n)
    (hn : (assignEach es X.env).length = n := by rfl) (hst : (assignEach es X.env).findIdx? (·.1) = none := by rfl) : MG X (.Tuple es k pos) (gTp gs) ss := ((pg_tup hc h hn hst).or (pg_lst hc h hn hst)).imp fun v σ H Q ⟨G, ρ, d, ρ1, r, q, e, h⟩ => by
  cases d with
  | tup ds =>
    obtain ⟨a, vs, rfl, hs, hr⟩ := q
    have e : gAll gs ds ρ = some ρ1 := e
    exact .inl ⟨a, vs, rfl, SqT.of (r.sub _ _ hs), by rw [← hr.length, ← gAll_len gs ds ρ ρ1 e, hl], G, ρ, ds, ρ1, r, hr, e, h⟩
  | ftup ds =>
    obtain ⟨a, vs, rfl, hs, hr⟩ := q
    have e : gAll gs ds ρ = some ρ1 := e
    exact .inl ⟨a, vs, rfl, sqT_mono r.sub hs, by rw [← hr.length, ← gAll_len gs ds ρ ρ1 e, hl], G, ρ, ds, ρ1, r, hr, e, h⟩
  | lst ds =>
    obtain ⟨a, vs, rfl, hs, hr⟩ := q
    have e : gAll gs ds ρ = some ρ1 := e
    exact .inr ⟨a, vs, rfl, SqL.of (r.sub _ _ hs), by rw [← hr.length, ← gAll_len gs ds ρ ρ1 e, hl], G, ρ, ds, ρ1, r, hr, e, h⟩
  | flst ds =>
    obtain ⟨a, vs, rfl, hs, hr⟩ := q
    have e : gAll gs ds ρ = some ρ1 := e
    exact .inr ⟨a, vs, rfl, sqL_mono r.sub hs, by rw [← hr.length, ← gAll_len gs ds ρ ρ1 e, hl], G, ρ, ds, ρ1, r, hr, e, h⟩
  | _ => cases e
/-- targets = a plain value -/
def sAsg (g : G1) (m : M) : MS := fun ρ => ofE (m ρ) fun r ρ1 => match g r.d ρ1 with
  | some ρ2 => .nx ρ2
  | none => .bad
theorem ms_asg {tg e : Expr} {m : M} {g : G1} {ss : List Nat} (he : ME X W e m) (hg : MG X tg g ss) (hs : swapsWithSole [tg] e pos.line X.env = pure false := by rfl) (hw : swappedStores [tg] e X.env = pure none := by rfl)
    (h1 : (assignEach [tg] X.env).map (·.2) = [assign tg X.env] := by rfl) : MSt X W (.Assign [tg] e pos) (sAsg g m) := (ps_asg he hg hs hw h1).imp fun D σ H ⟨G, ρ, r, h⟩ => by
  refine tM_thenS (D := D) r h fun G1 H1 ρ1 rv v g1 s r1 q h1 => ?_
  split at h1
  · rename_i ρ2 e
    obtain ⟨G2, g2, r2, _, rep⟩ := publish r g1 r1 s q
    exact ⟨G2, ρ1, rv.d, ρ2, r2, rep, e, fun σ1 s1 r3 _ => h1 σ1 G2 H1 ((Ss.ofE g2 s).trans s1) r3⟩
  · exact h1.elim
end
end L2.MX
end
section
set_option Elab.async false
set_option linter.all false
set_option maxRecDepth 100000
/-! MxU: owned lists and dicts changed; two names at once; name op= e. -/
namespace L2.MX
open PySem PySem.Spec PyProof.Rows
variable [tb : TabT]

/-- the owned slot i holds d -/
def Cell.setD (d : D) : Cell → Cell
  | .ow _ => .ow d
  | .io _ => .io d
  | c => c
def ownedAt (ρ : Env) (i : Nat) : Option D := match ρ[i]? with
  | some (.ow d) => some d
  | some (.io d) => some d
  | _ => none
def setOwn (ρ : Env) (i : Nat) (d : D) : Env := match ρ[i]? with
  | some c => ρ.set i (c.setD d)
  | none => ρ
theorem ownedAt_owns {ρ : Env} {i : Nat} {d : D} (h : ownedAt ρ i = some d) : Owns ρ i d := by
  unfold ownedAt at h
  split at h
  · rename_i c e; cases h; exact .inl e
  · rename_i c e; cases h; exact .inr e
  · cases h
section
variable {K : PySem.W.Frag} {G H : Hp} {σ : St} {ρ : Env}
theorem setOwn_at {i : Nat} {d d' : D} (h : Owns ρ i d) : (∀ (j : Nat) (c : Cell), (setOwn ρ i d')[j]? = some c → (j = i ∧ ((ρ[i]? = some (.ow d) ∧ c = .ow d') ∨ (ρ[i]? = some (.io d) ∧ c = .io d'))) ∨ (j ≠ i ∧ ρ[j]? = some c)) ∧ (setOwn ρ i d').length = ρ.length := by
  unfold setOwn
  rcases h with h | h
  · rw [h]
    refine ⟨fun j c z => ?_, by simp⟩
    rcases set_at z with ⟨e, y⟩ | y
    · exact .inl ⟨e, .inl ⟨rfl, y⟩⟩
    · exact .inr y
  · rw [h]
    refine ⟨fun j c z => ?_, by simp⟩
    rcases set_at z with ⟨e, y⟩ | y
    · exact .inl ⟨e, .inr ⟨rfl, y⟩⟩
    · exact .inr y
/-- an owned thing is written -/
theorem Rel.write {i : Nat} {d d' : D} {a : Addr} {o : HO} (r : Rel K G H σ ρ) (h : Owns ρ i d) (ea : σ[i]? = some (some (.ref a))) (t : Top K G (upd H a o) a d') :
    Rel K G (upd H a o) σ (setOwn ρ i d') ∧ Sub ρ (setOwn ρ i d') ∧ Go (Own σ ρ) G H G (upd H a o) := by
  obtain ⟨at_, hl⟩ := setOwn_at (d' := d') h
  obtain ⟨b, e1, n, told⟩ := r.ow i d h
  rw [ea] at e1; cases e1
  obtain ⟨u, hu⟩ := told.alive
  have own : ∀ (j : Nat) (c : D), Owns (setOwn ρ i d') j c → (j = i ∧ c = d') ∨ (j ≠ i ∧ Owns ρ j c) := fun j c z => by
    rcases z with z | z
    · rcases at_ j _ z with ⟨e, y⟩ | ⟨n, y⟩
      · rcases y with ⟨_, y⟩ | ⟨_, y⟩
        · cases y; exact .inl ⟨e, rfl⟩
        · cases y
      · exact .inr ⟨n, .inl y⟩
    · rcases at_ j _ z with ⟨e, y⟩ | ⟨n, y⟩
      · rcases y with ⟨_, y⟩ | ⟨_, y⟩
        · cases y
        · cases y; exact .inl ⟨e, rfl⟩
      · exact .inr ⟨n, .inr y⟩
  have own0 : ∀ (j : Nat) (c : D), Owns (setOwn ρ i d') j c → ∃ c', Owns ρ j c' := fun j c z => by
    rcases own j c z with ⟨e, _⟩ | ⟨_, y⟩
    · exact ⟨d, e ▸ h⟩
    · exact ⟨c, y⟩
  have key : ∀ (b : Addr) (p : HO), H b = some p → b ≠ a → upd H a o b = some p := fun b p e ne => by rw [upd_ne ne]; exact e
  refine ⟨⟨fun b p e => ?_, by rw [hl]; exact r.len, fun j c z => ?_, fun j c z => ?_, fun j k c c' b z1 z2 => ?_, r.ntb, tabs_upd (fun _ e => told.ntb e) r.tabs⟩, fun j => ⟨fun c z => ?_, fun c z => ?_⟩, ⟨Ex.refl G, fun b p e ni _ => key b p e fun z => ni ⟨i, d, h, by rw [z]; exact ea⟩, fun b p e => ?_, fun _ _ e => .inl e, tabs_upd (fun _ e => told.ntb e), id⟩⟩
  · refine key b p (r.sub b p e) fun z => ?_
    rw [z, n] at e; cases e
  · rcases at_ j _ z with ⟨e, y⟩ | ⟨n2, y⟩
    · rcases y with ⟨_, y⟩ | ⟨_, y⟩ <;> cases y
    · exact r.pl j c y
  · rcases own j c z with ⟨rfl, rfl⟩ | ⟨n2, y⟩
    · exact ⟨a, ea, n, t⟩
    · obtain ⟨b, e1, n1, t1⟩ := r.ow j c y
      refine ⟨b, e1, n1, t1.mono (Ex.refl G) fun p hp _ => key b p hp fun z => ?_⟩
      exact n2 (r.dis j i c d b y h e1 (by rw [ea, z]))
  · obtain ⟨c1, y1⟩ := own0 j c z1
    obtain ⟨c2, y2⟩ := own0 k c' z2
    exact r.dis j k c1 c2 b y1 y2
  · rcases at_ j _ z with ⟨e, y⟩ | ⟨_, y⟩
    · rcases y with ⟨y1, y⟩ | ⟨y1, y⟩
      · rw [e]; exact ⟨d, y1⟩
      · cases y
    · exact ⟨c, y⟩
  · rcases at_ j _ z with ⟨e, y⟩ | ⟨_, y⟩
    · rcases y with ⟨y1, y⟩ | ⟨y1, y⟩
      · cases y
      · rw [e]; exact ⟨d, y1⟩
    · exact ⟨c, y⟩
  · by_cases hb : b = a
    · exact ⟨o, by rw [hb, upd_same]⟩
    · exact ⟨p, key b p e hb⟩
end

/-! ### x[k] = e, x[k] op= e, x.append(e), x.pop(k) of an owned list x -/
def asInt : D → Option Int
  | .int i => some i
  | _ => none
def putIx (ρ : Env) (i : Nat) (k d : D) : Option Env := match ownedAt ρ i, k with
  | some (.lst ds), .int z => (ixN ds.length z).map fun j => setOwn ρ i (.lst (ds.set j d))
  | _, _ => none
def sSetIx (i : Nat) (mk : M) (me : M) : MS := fun ρ => ofE (me ρ) fun r ρ1 => if (ownedAt ρ1 i).isSome = true then ofE (mk ρ1) fun k ρ2 => match putIx ρ2 i k.d r.d with
  | some ρ3 => .nx ρ3
  | none => .bad else .bad
section
variable {X : Cx} {W : WX} {pos : Pos}
/-- a first expression of a statement, plain from now on -/
theorem tM_thenP {K : PySem.W.Frag} {G H : Hp} {σ : St} {ρ : Env} {D : Ends} {m : M} {k : RV → Env → SR} {R : V → Hp → Prop} (r0 : Rel K G H σ ρ) (h : PostS K G H σ ρ W D (ofE (m ρ) k))
    (hk : ∀ G1 H1 ρ1 rv v, Ex G G1 → Rel K G1 H1 σ ρ1 → Rep K G1 rv.d v → PostS K G1 H1 σ ρ1 W D (k rv ρ1) → R v H1) : tM K W m σ H R :=
  tM_thenS r0 h fun G1 H1 ρ1 rv v g s r q h1 => by
    obtain ⟨G2, g2, r2, _, rep⟩ := publish r0 g r s q
    exact hk G2 H1 ρ1 rv v g2.ext r2 rep (PostS.after (Ss.ofE g2 s) h1)
theorem putIx_ok {K : PySem.W.Frag} {G H : Hp} {σ : St} {ρ ρ3 : Env} {i : Nat} {k d : D} {kv v : V} (r : Rel K G H σ ρ) (hk : Rep K G k kv) (hd : Rep K G d v) (e : putIx ρ i k d = some ρ3) :
    ∃ (p : Addr) (xs : List V) (z : Int) (j : Nat), σ[i]? = some (some (.ref p)) ∧ kv = .int z ∧ H p = some (.lst xs) ∧ ixN xs.length z = some j ∧ Rel K G (upd H p (.lst (xs.set j v))) σ ρ3 ∧ Ss G H σ ρ G (upd H p (.lst (xs.set j v))) σ ρ3 := by
  unfold putIx at e
  split at e
  · rename_i ds z e1
    obtain ⟨j, ej, rfl⟩ := Option.map_eq_some_iff.mp e
    have o := ownedAt_owns e1
    obtain ⟨p, ep, n, vs, hp, rep⟩ := r.ow i _ o
    have t : Top K G (upd H p (.lst (vs.set j v))) p (.lst (ds.set j d)) := ⟨_, upd_same, rep.set j hd⟩
    obtain ⟨r2, s2, g2⟩ := r.write o ep t
    exact ⟨p, vs, z, j, ep, hk, hp, by rw [← rep.length]; exact ej, r2, Ss.ofE g2 s2⟩
  · cases e
variable {st : Stmt}
theorem ms_setIx {i : Nat} {mk me : M} (h : PS X st (tAsg (tM X.K W me) (gSub (tVar i) (tM X.K W mk) rSetL))) : MSt X W st (sSetIx i mk me) := by
  refine h.imp fun D σ H ⟨G, ρ, r, h⟩ => ?_
  refine tM_thenP (D := D) r h fun G1 H1 ρ1 rv v e1 r1 q1 h1 => ?_
  show tVar i σ H1 fun o H2 => tM X.K W mk σ H2 fun z H3 => rSetL o z v H3 fun H4 => D.nx σ H4
  split at h1
  · rename_i ho
    obtain ⟨d, ed⟩ := Option.isSome_iff_exists.mp ho
    obtain ⟨o, eo, _⟩ := r1.ow i d (ownedAt_owns ed)
    refine ⟨_, eo, ?_⟩
    refine tM_thenP (D := D) r1 h1 fun G2 H2 ρ2 kv z e2 r2 q2 h2 => ?_
    split at h2
    · rename_i ρ3 e3
      obtain ⟨p, xs, z', j, ep, ez, hp, ej, r3, s3⟩ := putIx_ok r2 q2 (Rep.mono e2 rv.d q1) e3
      rw [eo] at ep; cases ep
      exact ⟨o, xs, z', j, rfl, ez, hp, ej, h2 σ G2 _ s3 r3⟩
    · exact h2.elim
  · exact h1.elim
/-! x.append(e) -/
def appTo (ρ : Env) (i : Nat) (d : D) : Option Env := match ownedAt ρ i with
  | some (.lst ds) => if ds.length < lineN then some (setOwn ρ i (.lst (ds ++ [d]))) else none
  | _ => none
theorem owned_list {K : PySem.W.Frag} {G H : Hp} {σ : St} {ρ : Env} {i : Nat} {ds : List D} (r : Rel K G H σ ρ) (e : ownedAt ρ i = some (.lst ds)) : ∃ (p : Addr) (vs : List V), σ[i]? = some (some (.ref p)) ∧ H p = some (.lst vs) ∧ Reps K G ds vs := by
  obtain ⟨p, ep, n, vs, hp, rep⟩ := r.ow i _ (ownedAt_owns e)
  exact ⟨p, vs, ep, hp, rep⟩
theorem appTo_ok {K : PySem.W.Frag} {G H : Hp} {σ : St} {ρ ρ2 : Env} {i : Nat} {d : D} {v : V} (r : Rel K G H σ ρ) (hd : Rep K G d v) (e : appTo ρ i d = some ρ2) :
    ∃ (p : Addr) (xs : List V), σ[i]? = some (some (.ref p)) ∧ H p = some (.lst xs) ∧ xs.length < sizeLine ∧ Rel K G (upd H p (.lst (xs ++ [v]))) σ ρ2 ∧ Sub ρ ρ2 ∧ Go (Own σ ρ) G H G (upd H p (.lst (xs ++ [v]))) := by
  unfold appTo at e
  split at e
  · rename_i ds e1
    split at e
    · rename_i hl
      have e := (Option.some.inj e).symm
      subst e
      obtain ⟨p, vs, ep, hp, rep⟩ := owned_list r e1
      have t : Top K G (upd H p (.lst (vs ++ [v]))) p (.lst (ds ++ [d])) := ⟨_, upd_same, rep.append (Reps.one hd)⟩
      obtain ⟨r2, s2, g2⟩ := r.write (ownedAt_owns e1) ep t
      exact ⟨p, vs, ep, hp, by rw [← rep.length, line_eq]; exact hl, r2, s2, g2⟩
    · cases e
  · cases e
theorem list_ty {K : PySem.W.Frag} {G H : Hp} {σ : St} {ρ : Env} {i : Nat} {d : D} (r : Rel K G H σ ρ) (e : ownedAt ρ i = some d) (hl : ∃ ds, d = .lst ds) : ∃ p, σ[i]? = some (some (.ref p)) ∧ tyV K "list" (.ref p) H := by
  obtain ⟨ds, rfl⟩ := hl
  obtain ⟨p, vs, ep, hp, _⟩ := owned_list r e
  exact ⟨p, ep, .inl ⟨rfl, vs, SqL.of hp⟩⟩
def isLst : Option D → Bool
  | some (.lst _) => true
  | _ => false
theorem isLst_ok {o : Option D} (h : isLst o = true) : ∃ ds, o = some (.lst ds) := by
  unfold isLst at h
  split at h
  · exact ⟨_, rfl⟩
  · cases h
/-- x.append(e) -/
def sApp (i : Nat) (me : M) : MS := fun ρ => if isLst (ownedAt ρ i) = true then ofE (me ρ) fun r ρ1 => match appTo ρ1 i r.d with
  | some ρ2 => .nx ρ2
  | none => .bad else .bad
theorem ms_app {i : Nat} {me : M} (h : PS X st (tDrop (tBM X.K "list" rAppend (tVar i) (tCons (tM X.K W me) tNil)))) : MSt X W st (sApp i me) := by
  refine h.imp fun D σ H ⟨G, ρ, r, h⟩ => ?_
  unfold sApp at h
  split at h
  · rename_i ho
    obtain ⟨ds, ed⟩ := isLst_ok ho
    obtain ⟨p, ep, ty⟩ := list_ty r ed ⟨ds, rfl⟩
    refine ⟨_, ep, ty, ?_⟩
    refine tM_thenP (D := D) r h fun G1 H1 ρ1 rv v e1 r1 q1 h1 => ?_
    split at h1
    · rename_i ρ2 e2
      obtain ⟨p2, xs, ep2, hp, hz, r2, s2, g2⟩ := appTo_ok r1 q1 e2
      rw [ep] at ep2; cases ep2
      exact ⟨p, xs, v, rfl, rfl, hp, hz, h1 σ G1 _ (Ss.ofE g2 s2) r2⟩
    · exact h1.elim
  · exact h.elim
/-- x.pop(k) -/
def popOf (ρ : Env) (i : Nat) (k : D) : Option (D × Env) := match ownedAt ρ i, k with
  | some (.lst ds), .int z => if -(1000000000 : Int) ≤ z ∧ z < 1000000000 then (seqIndex? z ds.length).bind fun j => (ds[j]?).map fun d => (d, setOwn ρ i (.lst (ds.eraseIdx j))) else none
  | _, _ => none
def mPopAt (i : Nat) (mk : M) : M := fun ρ => if isLst (ownedAt ρ i) = true then bindM (mk ρ) fun k ρ1 => match popOf ρ1 i k.d with
  | some (d, ρ2) => .ok (.pl d) ρ2
  | none => .bad else .bad
theorem me_popAt {i : Nat} {mk : M} {e : Expr} (h : PE X e (tBM X.K "list" rPopAt (tVar i) (tCons (tM X.K W mk) tNil))) : ME X W e (mPopAt i mk) := by
  refine h.imp fun σ H Q ⟨G, ρ, r, h⟩ => ?_
  unfold mPopAt at h
  split at h
  · rename_i ho
    obtain ⟨ds, ed⟩ := isLst_ok ho
    obtain ⟨p, ep, ty⟩ := list_ty r ed ⟨ds, rfl⟩
    refine ⟨_, ep, ty, ?_⟩
    refine tM_then (Q := Q) r h fun G1 H1 ρ1 rv v e1 r1 q1 h1 => ?_
    split at h1
    · rename_i d ρ2 e2
      unfold popOf at e2
      split at e2
      · rename_i ds2 z e3 e4
        split at e2
        · rename_i hz
          cases q : seqIndex? z ds2.length with
          | none => rw [q] at e2; cases e2
          | some j =>
            rw [q] at e2
            obtain ⟨d', ej, e5⟩ := Option.map_eq_some_iff.mp (show (ds2[j]?).map (fun d => (d, setOwn ρ1 i (.lst (ds2.eraseIdx j)))) = some (d, ρ2) from e2)
            cases e5
            obtain ⟨p2, vs, ep2, hp, rep⟩ := owned_list r1 e3
            rw [ep] at ep2; cases ep2
            obtain ⟨y, ey, ry⟩ := rep.get ej
            have t : Top X.K G1 (upd H1 p (.lst (vs.eraseIdx j))) p (.lst (ds2.eraseIdx j)) := ⟨_, upd_same, rep.eraseIdx j⟩
            obtain ⟨r2, s2, g2⟩ := r1.write (ownedAt_owns e3) ep t
            rw [e4] at q1
            exact ⟨p, vs, z, j, y, rfl, congrArg (fun a => [a]) q1, hp, by omega, by omega, by rw [← rep.length]; exact q, ey, h1 y G1 _ g2 r2 s2 ry⟩
        · cases e2
      · cases e2
    · exact h1.elim
  · exact h.elim
/-- x.pop() -/
def mPop (i : Nat) : M := fun ρ => match ownedAt ρ i with
  | some (.lst ds) => (match ds[ds.length - 1]? with
    | some d => .ok (.pl d) (setOwn ρ i (.lst (ds.take (ds.length - 1))))
    | none => .bad)
  | _ => .bad
theorem me_pop {i : Nat} {e : Expr} (h : PE X e (tBM0 X.K "list" rPop (tVar i))) : ME X W e (mPop i) := by
  refine h.imp fun σ H Q ⟨G, ρ, r, h⟩ => ?_
  unfold mPop at h
  split at h
  · rename_i ds ed
    obtain ⟨p, ep, ty⟩ := list_ty r ed ⟨ds, rfl⟩
    refine ⟨_, ep, ty, ?_⟩
    split at h
    · rename_i d e1
      obtain ⟨p2, vs, ep2, hp, rep⟩ := owned_list r ed
      rw [ep] at ep2; cases ep2
      rw [rep.length] at e1
      obtain ⟨y, ey, ry⟩ := rep.get e1
      have t : Top X.K G (upd H p (.lst vs.dropLast)) p (.lst (ds.take (ds.length - 1))) := ⟨_, upd_same, by
        rw [List.dropLast_eq_take, ← rep.length]
        exact rep.take _⟩
      obtain ⟨r2, s2, g2⟩ := r.write (ownedAt_owns ed) ep t
      exact ⟨p, vs, y, rfl, rfl, hp, ey, h y G _ g2 r2 s2 ry⟩
    · exact h.elim
  · exact h.elim
end
/-! ### x[k] op= e -/
section
variable {X : Cx} {W : WX} {st : Stmt}
/-- reading an item by values -/
theorem get_list {X : Cx} : PGet X (rIxL X.K) := by
  intro pins s σ H x y v u Q I rx ry h
  obtain ⟨p, xs, i, z, rfl, rfl, hq, he, q⟩ := h
  cases rx
  obtain ⟨t, rfl⟩ := ry
  obtain ⟨its, r, pl, hz⟩ := I.list hq
  obtain ⟨j, h1, h2, h3, h4, h5⟩ := atI_get he
  obtain ⟨w, ew, rw'⟩ := r.get h2
  have hl := r.length
  have hn := line63
  have fin : EP X pins σ Q w s := ⟨z, H, I, rw', q⟩
  by_cases h0 : 0 ≤ i
  · have hj : i.toNat = j := by
      rw [seqIndex_of h0 h5] at h1
      exact Option.some.inj h1
    exact wpAny_getItem_list pl.isList h0 (by omega) (by rw [hj]; simpa using ew) fin
  · have hj : (i + (its.toArray.size : Int)).toNat = j := by
      rw [seqIndex_neg (by omega) h4] at h1
      rw [List.size_toArray, ← hl]
      exact Option.some.inj h1
    exact wpAny_getItem_list_neg pl.isList (by omega) (by rw [List.size_toArray] <;> omega) (by omega) (by rw [hj]; simpa using ew) fin
/-- the item at k of an owned list, as an int-like thing; f its operation -/
def sAugIx (i : Nat) (mk : M) (f : Fn2) (me : M) : MS := fun ρ => if isLst (ownedAt ρ i) = true then ofE (mk ρ) fun k ρ1 => match ownedAt ρ1 i, k.d with
  | some (.lst ds), .int z => (match atI ds z with
    | some d => ofE (me ρ1) fun r ρ2 => (match f d r.d with
      | some (.pl d2) => (match putIx ρ2 i (.int z) d2 with
        | some ρ3 => .nx ρ3
        | none => .bad)
      | _ => .bad)
    | none => .bad)
  | _, _ => .bad else .bad
theorem ms_augIx {i : Nat} {mk me : M} {f : Fn2} {r2 : R2} (hs : OpS X.K f r2) (h : PS X st (tAugS (tVar i) (tM X.K W mk) (tM X.K W me) (rIxL X.K) r2 rSetL)) : MSt X W st (sAugIx i mk f me) := by
  refine h.imp fun D σ H ⟨G, ρ, r, h⟩ => ?_
  unfold sAugIx at h
  split at h
  · rename_i ho
    obtain ⟨ds, ed⟩ := isLst_ok ho
    obtain ⟨p, ep, ty⟩ := list_ty r ed ⟨ds, rfl⟩
    refine ⟨_, ep, ?_⟩
    refine tM_thenP (D := D) r h fun G1 H1 ρ1 rv v e1 r1 q1 h1 => ?_
    split at h1
    · rename_i ds1 z e2 e3
      rw [e3] at q1
      obtain rfl : v = .int z := q1
      split at h1
      · rename_i d e4
        obtain ⟨p2, vs, ep2, hp, rep⟩ := owned_list r1 e2
        rw [ep] at ep2; cases ep2
        obtain ⟨y, ey, ry⟩ := reps_at rep e4
        refine ⟨p, vs, z, y, rfl, rfl, SqL.of hp, ey, ?_⟩
        refine tM_thenP (D := D) r1 h1 fun G2 H2 ρ2 rv2 w e5 r3 q2 h2 => ?_
        split at h2
        · rename_i d2 e6
          refine hs G2 H2 y w d rv2.d _ _ r3.sub (Rep.two r3.sub (Rep.mono e5 d ry)) (Rep.two r3.sub q2) e6 fun v3 G3 H3 g3 s3 q3 => ?_
          have r4 := r3.step g3 s3
          split at h2
          · rename_i ρ3 e7
            obtain ⟨p3, xs3, z3, j3, ep3, ez3, hp3, ej3, r5, ss5⟩ := putIx_ok (k := .int z) (kv := .int z) r4 (show Rep X.K G3 (.int z) (.int z) from rfl) q3 e7
            rw [ep] at ep3; cases ep3
            have gg : Go (Own σ ρ2) G2 H2 G3 H3 := g3.weak fun _ z => z.elim
            exact ⟨p, xs3, z3, j3, rfl, ez3, hp3, ej3, h2 σ G3 _ ((Ss.ofE gg (Sub.refl ρ2)).trans ss5) r5⟩
          · exact h2.elim
        · exact h2.elim
      · exact h1.elim
    · exact h1.elim
  · exact h.elim
/-! ### name op= e -/
def sAug (i : Nat) (f : Fn2) (me : M) : MS := fun ρ => match ρ[i]? with
  | some (.pl d) => ofE (me ρ) fun r ρ1 => (match f d r.d with
    | some (.pl d2) => (match putC i (.pl d2) ρ1 with
      | some ρ2 => .nx ρ2
      | none => .bad)
    | _ => .bad)
  | _ => .bad
theorem ms_aug {i : Nat} {me : M} {f : Fn2} {r2 : R2} (hs : OpS X.K f r2) (h : PS X st (tAug i (tM X.K W me) r2)) : MSt X W st (sAug i f me) := by
  refine h.imp fun D σ H ⟨G, ρ, r, h⟩ => ?_
  unfold sAug at h
  split at h
  · rename_i d e
    obtain ⟨x, ex, qx⟩ := r.pl i d e
    refine ⟨x, ex, ?_⟩
    refine tM_thenP (D := D) r h fun G1 H1 ρ1 rv v e1 r1 q1 h1 => ?_
    split at h1
    · rename_i d2 e2
      refine hs G1 H1 x v d rv.d _ _ r1.sub (Rep.two r1.sub (Rep.mono e1 d qx)) (Rep.two r1.sub q1) e2 fun v3 G3 H3 g3 s3 q3 => ?_
      split at h1
      · rename_i ρ2 e3
        have gg : Go (Own σ ρ1) G1 H1 G3 H3 := g3.weak fun _ z => z.elim
        obtain ⟨r4, s4⟩ := Rel.put (rv := .pl d2) r1 gg (Sub.refl ρ1) (r1.step g3 s3) q3 e3
        exact h1 _ G3 H3 s4 r4
      · exact h1.elim
    · exact h1.elim
  · exact h.elim
end
end L2.MX
end
section
set_option Elab.async false
set_option linter.all false
set_option maxRecDepth 100000
/-! MxL: dicts; two names at once; loops; comprehensions. -/
namespace L2.MX
open PySem PySem.Spec PyProof.Rows
variable [tb : TabT]

/-! ### dicts -/
def keyOf : D → Option Key
  | .int i => some (.inl i)
  | .str x => some (.inr x)
  | _ => none
def findK : List Key → List D → Key → Option D
  | k :: ks, d :: ds, j => if k = j then some d else findK ks ds j
  | _, _, _ => none
def putD : List Key → List D → Key → D → List Key × List D
  | k :: ks, d :: ds, j, x => if k = j then (k :: ks, x :: ds) else ((k :: (putD ks ds j x).1), (d :: (putD ks ds j x).2))
  | _, _, j, x => ([j], [x])
section
variable {K : PySem.W.Frag} {G H : Hp}
theorem key_ok {d : D} {k : Key} {v : V} (e : keyOf d = some k) (h : Rep K G d v) : v = kV k := by
  cases d with
  | int i => cases e; exact h
  | str x => cases e; exact h
  | _ => cases e
theorem findK_ok : ∀ {ks : List Key} {ds : List D} {vs : List V} {j : Key}, ks.length = vs.length → Reps K G ds vs → match findK ks ds j with
    | some d => ∃ v, valV (ks.zip vs) j = some v ∧ Rep K G d v
    | none => valV (ks.zip vs) j = none
  | [], ds, vs, j, hl, h => by
    unfold findK
    rfl
  | k :: ks, [], vs, j, hl, h => by
    obtain rfl : vs = [] := h
    cases hl
  | k :: ks, d :: ds, vs, j, hl, h => by
    obtain ⟨v, r, rfl, hv, hr⟩ := h
    unfold findK
    by_cases hk : k = j
    · rw [if_pos hk]
      exact ⟨v, valV_pos (p := (k, v)) hk, hv⟩
    · rw [if_neg hk]
      have ih := findK_ok (ks := ks) (ds := ds) (vs := r) (j := j) (by simpa using hl) hr
      rw [show valV ((k :: ks).zip (v :: r)) j = valV (ks.zip r) j from valV_neg (p := (k, v)) hk]
      exact ih
theorem putD_ok : ∀ {ks : List Key} {ds : List D} {vs : List V} {j : Key} {x : D} {y : V}, ks.length = vs.length → Reps K G ds vs → Rep K G x y → ks.Nodup →
    ∃ vs', putK (ks.zip vs) j y = (putD ks ds j x).1.zip vs' ∧ (putD ks ds j x).1.length = vs'.length ∧ Reps K G (putD ks ds j x).2 vs' ∧ (putD ks ds j x).1.Nodup ∧ (∀ z, z ∈ (putD ks ds j x).1 → z ∈ ks ∨ z = j)
  | [], ds, vs, j, x, y, hl, h, hx, hn => by
    obtain rfl : vs = [] := by cases vs with | nil => rfl | cons => cases hl
    unfold putD
    exact ⟨[y], rfl, rfl, Reps.one hx, by simp, fun z hz => .inr (by simpa using hz)⟩
  | k :: ks, [], vs, j, x, y, hl, h, hx, hn => by
    obtain rfl : vs = [] := h
    cases hl
  | k :: ks, d :: ds, vs, j, x, y, hl, h, hx, hn => by
    obtain ⟨v, r, rfl, hv, hr⟩ := h
    obtain ⟨nk, hn'⟩ := List.nodup_cons.mp hn
    unfold putD
    by_cases hk : k = j
    · subst hk
      rw [if_pos rfl]
      refine ⟨y :: r, ?_, hl, ⟨y, r, rfl, hx, hr⟩, hn, fun z hz => .inl hz⟩
      unfold putK
      have hany : (((k :: ks).zip (v :: r)).any fun kv => decide (kv.1 = k)) = true := by simp
      rw [if_pos hany]
      show (if k = k then (k, y) else (k, v)) :: (ks.zip r).map _ = (k, y) :: ks.zip r
      rw [if_pos rfl]
      congr 1
      have : ∀ p ∈ ks.zip r, (if p.1 = k then (p.1, y) else p) = p := fun p hp => by
        have hp1 : p.1 ∈ ks := (List.of_mem_zip hp).1
        rw [if_neg (show ¬ p.1 = k from fun z => nk (z ▸ hp1))]
      rw [List.map_congr_left this]
      simp
    · rw [if_neg hk]
      obtain ⟨vs', e1, e2, e3, e4, e5⟩ := putD_ok (ks := ks) (ds := ds) (vs := r) (j := j) (x := x) (y := y) (by simpa using hl) hr hx hn'
      refine ⟨v :: vs', ?_, by simpa using e2, ⟨v, vs', rfl, hv, e3⟩, List.nodup_cons.mpr ⟨fun z => (e5 k z).elim nk hk, e4⟩, fun z hz => ?_⟩
      · show putK ((k, v) :: ks.zip r) j y = (k, v) :: (putD ks ds j x).1.zip vs'
        rw [← e1]
        unfold putK
        by_cases ha : ((ks.zip r).any fun kv => decide (kv.1 = j)) = true
        · have ha2 : (((k, v) :: ks.zip r).any fun kv => decide (kv.1 = j)) = true := by rw [List.any_cons, ha, Bool.or_true]
          rw [if_pos ha, if_pos ha2]
          show (if k = j then (k, y) else (k, v)) :: _ = _
          rw [if_neg hk]
        · have ha2 : ¬ (((k, v) :: ks.zip r).any fun kv => decide (kv.1 = j)) = true := by
            rw [List.any_cons, Bool.or_eq_true]
            rintro (z | z)
            · exact hk (of_decide_eq_true z)
            · exact ha z
          rw [if_neg ha, if_neg ha2]
          rfl
      · rcases List.mem_cons.mp hz with z1 | z1
        · exact .inl (by rw [z1]; exact List.mem_cons_self)
        · rcases e5 z z1 with z2 | z2
          · exact .inl (List.mem_cons_of_mem _ z2)
          · exact .inr z2
end
def dDGet : Fn2
  | .dic ks ds, d => (keyOf d).bind fun k => (findK ks ds k).map .pl
  | _, _ => none
def rDGet : R2 := fun x y H Q => ∃ a v, x = .ref a ∧ DGet H a y (some v) ∧ Q v H
section
variable {K : PySem.W.Frag}
theorem s_dget : OpS K dDGet rDGet := by
  intro G H x y d1 d2 rv Q s h1 h2 e k
  unfold dDGet at e
  split at e
  · rename_i ks ds
    cases ek : keyOf d2 with
    | none => rw [ek] at e; cases e
    | some j =>
      rw [ek] at e
      obtain ⟨d, ed, rfl⟩ := Option.map_eq_some_iff.mp (show (findK ks ds j).map RV.pl = some rv from e)
      obtain ⟨a, vs, rfl, ha, hl, hr⟩ := h1
      have f := findK_ok (j := j) hl hr
      rw [ed] at f
      obtain ⟨v, e1, e2⟩ := f
      have hy : y = kV j := by
        cases d2 with
        | int i => cases ek; exact h2
        | str x => cases ek; exact h2
        | _ => cases ek
      subst hy
      have g := DGet.k (k := j) ha
      rw [e1] at g
      exact ⟨a, v, rfl, g, same_end s e2 k⟩
  · cases e
end
section
variable {X : Cx} {W : WX} {pos : Pos} {st : Stmt}
theorem me_dget {o i : Expr} {ma mb : MO} (hu : X.A.units + 1 < cLine) (ho : MOp X W o ma) (hi : MOp X W i mb) (hs : NoSl i := by intro _ _; rfl) : ME X W (.Subscript o i pos) (mOp dDGet ma mb) :=
  (pe_dget hu ho hi hs).imp fun _ _ _ h => op_then s_dget h
def isDic : Option D → Bool
  | some (.dic _ _) => true
  | _ => false
theorem isDic_ok {o : Option D} (h : isDic o = true) : ∃ ks ds, o = some (.dic ks ds) := by
  unfold isDic at h
  split at h
  · exact ⟨_, _, rfl⟩
  · cases h
def putKey (ρ : Env) (i : Nat) (k d : D) : Option Env := match ownedAt ρ i with
  | some (.dic ks ds) => if ks.length < 1000000 ∧ ks.Nodup then (keyOf k).map fun j => setOwn ρ i (.dic (putD ks ds j d).1 (putD ks ds j d).2) else none
  | _ => none
/-- d[k] = e -/
def sDPut1 (i : Nat) (mk me : M) : MS := fun ρ => ofE (me ρ) fun r ρ1 => if isDic (ownedAt ρ1 i) = true then ofE (mk ρ1) fun k ρ2 => match putKey ρ2 i k.d r.d with
  | some ρ3 => .nx ρ3
  | none => .bad else .bad
theorem ms_dput {i : Nat} {mk me : M} (h : PS X st (sDPut (tVar i) (tM X.K W mk) (tM X.K W me))) : MSt X W st (sDPut1 i mk me) := by
  refine h.imp fun D σ H ⟨G, ρ, r, h⟩ => ?_
  refine tM_thenP (D := D) r h fun G1 H1 ρ1 rv v e1 r1 q1 h1 => ?_
  split at h1
  · rename_i ho
    obtain ⟨ks, ds, ed⟩ := isDic_ok ho
    obtain ⟨a, ea, _, t⟩ := r1.ow i _ (ownedAt_owns ed)
    refine ⟨_, ea, ?_⟩
    refine tM_thenP (D := D) r1 h1 fun G2 H2 ρ2 kv y e2 r2 q2 h2 => ?_
    split at h2
    · rename_i ρ3 e3
      unfold putKey at e3
      split at e3
      · rename_i ks2 ds2 e4
        split at e3
        · rename_i hz
          obtain ⟨j, ej, rfl⟩ := Option.map_eq_some_iff.mp e3
          obtain ⟨a2, ea2, _, vs, hp, hl, rep⟩ := r2.ow i _ (ownedAt_owns e4)
          rw [ea] at ea2; cases ea2
          obtain ⟨vs', b1, b2, b3, b4, _⟩ := putD_ok (j := j) hl rep (Rep.mono e2 rv.d q1) hz.2
          have t2 : Top X.K G2 (upd H2 a (.dK (putK (ks2.zip vs) j v))) a (.dic (putD ks2 ds2 j rv.d).1 (putD ks2 ds2 j rv.d).2) := ⟨vs', by rw [upd_same, b1], b2, b3⟩
          obtain ⟨r3, s3, g3⟩ := r2.write (ownedAt_owns e4) ea t2
          rw [key_ok ej q2]
          refine ⟨a, _, rfl, DPut.k hp ?_, h2 σ G2 _ (Ss.ofE g3 s3) r3⟩
          have : (ks2.zip vs).length ≤ ks2.length := by rw [List.length_zip]; exact Nat.min_le_left _ _
          rw [line_eq]
          unfold lineN
          omega
        · cases e3
      · cases e3
    · exact h2.elim
  · exact h1.elim
/-! ### two names at once: a, b = x, y -/
inductive RVs (K : PySem.W.Frag) (G1 H H1 : Hp) : List RV → List V → Prop
  | nil : RVs K G1 H H1 [] []
  | cons {r v rs vs} : RVok K G1 H H1 r v → (∀ d, r = .fr d → ∀ (j : Nat) (d' : D), rs[j]? = some (.fr d') → vs[j]? ≠ some v) → RVs K G1 H H1 rs vs → RVs K G1 H H1 (r :: rs) (v :: vs)
abbrev MR := Env → ER (List RV)
def PostR (K : PySem.W.Frag) (G H : Hp) (σ : St) (ρ : Env) (W : WX) (Q : List V → Hp → Prop) : ER (List RV) → Prop
  | .bad => False
  | .ok rs ρ1 => ∀ vs G1 H1, Go (Own σ ρ) G H G1 H1 → Rel K G1 H1 σ ρ1 → Sub ρ ρ1 → RVs K G1 H H1 rs vs → Q vs H1
  | .ex x ρ1 => ∀ cls d G1 H1, Go (Own σ ρ) G H G1 H1 → Rel K G1 H1 σ ρ1 → Sub ρ ρ1 → XRep K G1 H1 x cls d → W cls d σ H1
def tMR (K : PySem.W.Frag) (W : WX) (m : MR) : TA := fun σ H Q => ∃ G ρ, Rel K G H σ ρ ∧ PostR K G H σ ρ W Q (m ρ)
abbrev MRr (X : Cx) (W : WX) (es : List Expr) (m : MR) : Prop := PA X es (tMR X.K W m)
def mR0 : MR := fun ρ => .ok [] ρ
def mRc (m : M) (ms : MR) : MR := fun ρ => bindM (m ρ) fun r ρ1 => bindM (ms ρ1) fun rs ρ2 => .ok (r :: rs) ρ2
theorem mr_nil : MRr X W [] mR0 := pa_nil.imp fun σ H Q ⟨G, ρ, r, h⟩ => h [] G H Go.refl r (Sub.refl ρ) .nil
theorem mr_cons {e : Expr} {es : List Expr} {m : M} {ms : MR} (h1 : ME X W e m) (h2 : MRr X W es ms) (hs : starEach (e :: es) X.env = (false, eval e X.env) :: starEach es X.env := by rfl) : MRr X W (e :: es) (mRc m ms) := by
  refine (pa_cons h1 h2 hs).imp fun σ H Q ⟨G, ρ, r0, h⟩ => ?_
  have h : PostR X.K G H σ ρ W Q (bindM (m ρ) fun r ρ1 => bindM (ms ρ1) fun rs ρ2 => .ok (r :: rs) ρ2) := h
  refine ⟨G, ρ, r0, ?_⟩
  cases e : m ρ with
  | bad => rw [e] at h; exact h
  | ex x ρ1 => rw [e] at h; exact h
  | ok rv ρ1 =>
    rw [e] at h
    intro v G1 H1 g r1 s q
    have h : PostR X.K G H σ ρ W Q (bindM (ms ρ1) fun rs ρ2 => .ok (rv :: rs) ρ2) := h
    refine ⟨G1, ρ1, r1, ?_⟩
    have g12 : ∀ {G2 H2}, Go (Own σ ρ1) G1 H1 G2 H2 → Go (Own σ ρ) G H G2 H2 := fun g2 => g.trans g2 fun x z => .inl (s.own z)
    cases e2 : ms ρ1 with
    | bad => rw [e2] at h; exact h
    | ex x ρ2 =>
      rw [e2] at h
      exact fun cls d G2 H2 g2 r2 s2 q2 => h cls d G2 H2 (g12 g2) r2 (s.trans s2) q2
    | ok rs ρ2 =>
      rw [e2] at h
      intro vs G2 H2 g2 r2 s2 q2
      -- the first value through the second step
      have first : RVok X.K G2 H H2 rv v := by
        cases rv with
        | pl d => exact Rep.mono g2.ext d q
        | fr d =>
          obtain ⟨a, ev, na, ng, t⟩ := q
          obtain ⟨o, ho⟩ := t.alive
          have nown : ¬ Own σ ρ1 a := fun z => by
            obtain ⟨u, hu⟩ := r0.alive (s.own z)
            rw [na] at hu; cases hu
          refine ⟨a, ev, na, ?_, t.mono g2.ext fun p hp => g2.keep a p hp nown⟩
          cases z : G2 a with
          | none => rfl
          | some u =>
            rcases g2.new a u z with y | y | y
            · rw [ng] at y; cases y
            · rw [ho] at y; cases y
            · exact (nown y).elim
      have rest : ∀ {rs : List RV} {vs : List V}, RVs X.K G2 H1 H2 rs vs → RVs X.K G2 H H2 rs vs := fun z => by
        induction z with
        | nil => exact .nil
        | cons a b _ ih =>
          refine .cons ?_ b ih
          rename_i r' v' _ _ _
          cases r' with
          | pl d => exact a
          | fr d =>
            obtain ⟨x, e1, n, z⟩ := a
            exact ⟨x, e1, g.fresh n, z⟩
      have apart : ∀ d, rv = .fr d → ∀ (j : Nat) (d' : D), rs[j]? = some (.fr d') → vs[j]? ≠ some v := fun d e1 j d' e3 e4 => by
        subst e1
        obtain ⟨a, ev, na, ng, t⟩ := q
        obtain ⟨o, ho⟩ := t.alive
        have : ∀ {rs : List RV} {vs : List V} {j : Nat}, RVs X.K G2 H1 H2 rs vs → rs[j]? = some (.fr d') → vs[j]? = some v → False := fun {rs} => by
          induction rs with
          | nil => intro vs j _ z; simp at z
          | cons r' rs' ih =>
            intro vs j z y w
            cases z with
            | cons a1 b1 c1 =>
              cases j with
              | zero =>
                have y : r' = .fr d' := Option.some.inj y
                subst y
                obtain ⟨b, e5, n5, _⟩ := a1
                have w : _ = v := Option.some.inj w
                rw [w, ev] at e5
                cases e5
                rw [ho] at n5; cases n5
              | succ j => exact ih c1 (by simpa using y) (by simpa using w)
        exact this q2 e3 e4
      exact h (v :: vs) G2 H2 (g12 g2) r2 (s.trans s2) (.cons first apart (rest q2))
def putAll : List Nat → List RV → Env → Option Env
  | [], [], ρ => some ρ
  | i :: is, r :: rs, ρ => (putC i r ρ).bind fun ρ1 => putAll is rs ρ1
  | _, _, _ => none
def ofR (e : ER (List RV)) (k : List RV → Env → SR) : SR := match e with
  | .bad => .bad
  | .ok r ρ => k r ρ
  | .ex x ρ => .ex x ρ
def sPar (is : List Nat) (m : MR) : MS := fun ρ => ofR (m ρ) fun rs ρ1 => match putAll is rs ρ1 with
  | some ρ2 => .nx ρ2
  | none => .bad
theorem tMR_thenS {K : PySem.W.Frag} {G H : Hp} {σ : St} {ρ : Env} {D : Ends} {m : MR} {k : List RV → Env → SR} {R : List V → Hp → Prop} (r0 : Rel K G H σ ρ) (h : PostS K G H σ ρ W D (ofR (m ρ) k))
    (hk : ∀ G1 H1 ρ1 rs vs, Go (Own σ ρ) G H G1 H1 → Sub ρ ρ1 → Rel K G1 H1 σ ρ1 → RVs K G1 H H1 rs vs → PostS K G H σ ρ W D (k rs ρ1) → R vs H1) : tMR K W m σ H R := by
  refine ⟨G, ρ, r0, ?_⟩
  cases e : m ρ with
  | bad =>
    rw [e] at h
    exact h
  | ex x ρ1 =>
    rw [e] at h
    exact fun cls d G1 H1 g r s q => h cls d σ G1 H1 (Ss.ofE g s) r q
  | ok rv ρ1 =>
    rw [e] at h
    exact fun v G1 H1 g r s q => hk G1 H1 ρ1 rv v g s r q h
/-- a value to be stored, as the heap stands -/
def RVq (K : PySem.W.Frag) (G H : Hp) : RV → V → Prop
  | .pl d, v => Rep K G d v
  | .fr d, v => ∃ a, v = .ref a ∧ G a = none ∧ Top K G H a d
theorem RVok.q {K : PySem.W.Frag} {G1 H H1 : Hp} {r : RV} {v : V} (h : RVok K G1 H H1 r v) : RVq K G1 H1 r v := by
  cases r with
  | pl d => exact h
  | fr d =>
    obtain ⟨a, e, _, n, t⟩ := h
    exact ⟨a, e, n, t⟩
theorem Rel.put1 {K : PySem.W.Frag} {G1 H1 : Hp} {σ : St} {ρ1 ρ2 : Env} {i : Nat} {rv : RV} {v : V} (r : Rel K G1 H1 σ ρ1) (q : RVq K G1 H1 rv v)
    (apart : ∀ (d : D) (a : Addr), rv = .fr d → v = .ref a → ∀ (j : Nat) (c : D), Owns ρ1 j c → σ[j]? ≠ some (some (.ref a))) (e : putC i rv ρ1 = some ρ2) :
    Rel K G1 H1 (σ.set i (some v)) ρ2 ∧ (∀ a, Own (σ.set i (some v)) ρ2 a → Own σ ρ1 a ∨ ∃ d, rv = .fr d ∧ v = .ref a) ∧ ∀ (j : Nat) (d : D), ρ2[j]? = some (Cell.io d) → (σ.set i (some v))[j]? = σ[j]? ∧ ρ1[j]? = some (Cell.io d) := by
  unfold putC at e
  split at e
  · cases e
  rename_i hio
  have e := (Option.some.inj e).symm
  subst e
  have hi : i < ρ1.length := by
    cases z : ρ1[i]? with
    | none => rw [z] at hio; exact (hio rfl).elim
    | some c => exact (List.getElem?_eq_some_iff.mp z).1
  have hiσ : i < σ.length := by rw [r.len]; exact hi
  have at_i : (σ.set i (some v))[i]? = some (some v) := List.getElem?_set_self hiσ
  have at_j : ∀ j, j ≠ i → (σ.set i (some v))[j]? = σ[j]? := fun j hj => List.getElem?_set_ne (Ne.symm hj)
  have own : ∀ (j : Nat) (d : D), Owns (ρ1.set i (cellOf rv)) j d → (j = i ∧ rv = .fr d) ∨ (j ≠ i ∧ Owns ρ1 j d) := fun j d h => by
    rcases h with h | h
    · rcases set_at h with ⟨z, y⟩ | ⟨n, z⟩
      · cases rv with
        | pl d' => cases y
        | fr d' => cases y; exact .inl ⟨z, rfl⟩
      · exact .inr ⟨n, .inl z⟩
    · rcases set_at h with ⟨z, y⟩ | ⟨n, z⟩
      · cases rv with
        | pl d' => cases y
        | fr d' => cases y
      · exact .inr ⟨n, .inr z⟩
  refine ⟨⟨r.sub, by simpa using r.len, fun j d h => ?_, fun j d h => ?_, fun j k d d' a h1 h2 e1 e2 => ?_, r.ntb, r.tabs⟩, fun a h => ?_, fun j d h => ?_⟩
  · rcases set_at h with ⟨rfl, y⟩ | ⟨n, z⟩
    · cases rv with
      | pl d' => cases y; exact ⟨v, at_i, q⟩
      | fr d' => cases y
    · obtain ⟨w, e1, e2⟩ := r.pl j d z
      exact ⟨w, (at_j j n).trans e1, e2⟩
  · rcases own j d h with ⟨rfl, y⟩ | ⟨n, o⟩
    · subst y
      obtain ⟨a, e1, n, t⟩ := q
      exact ⟨a, by rw [at_i, e1], n, t⟩
    · obtain ⟨a, e1, n1, t⟩ := r.ow j d o
      exact ⟨a, (at_j j n).trans e1, n1, t⟩
  · rcases own j d h1 with ⟨rfl, y⟩ | ⟨n, o⟩
    · rcases own k d' h2 with ⟨rfl, _⟩ | ⟨n2, o2⟩
      · rfl
      · rw [at_i] at e1
        rw [at_j k n2] at e2
        exact (apart d a y (Option.some.inj (Option.some.inj e1)) k d' o2 e2).elim
    · rw [at_j j n] at e1
      rcases own k d' h2 with ⟨rfl, y⟩ | ⟨n2, o2⟩
      · rw [at_i] at e2
        exact (apart d' a y (Option.some.inj (Option.some.inj e2)) j d o e1).elim
      · rw [at_j k n2] at e2
        exact r.dis j k d d' a o o2 e1 e2
  · obtain ⟨j, d, o, e1⟩ := h
    rcases own j d o with ⟨rfl, y⟩ | ⟨n, o1⟩
    · rw [at_i] at e1
      exact .inr ⟨d, y, Option.some.inj (Option.some.inj e1)⟩
    · rw [at_j j n] at e1
      exact .inl ⟨j, d, o1, e1⟩
  · rcases set_at h with ⟨rfl, y⟩ | ⟨n, z⟩
    · cases rv <;> cases y
    · exact ⟨at_j j n, z⟩
def setAll : List Nat → List V → St → St
  | i :: is, v :: vs, σ => setAll is vs (σ.set i (some v))
  | _, _, σ => σ
/-- several values stored, one behind the other -/
theorem Rel.putAll {K : PySem.W.Frag} {G H G1 H1 : Hp} {σ0 : St} {ρ0 : Env} (r0 : Rel K G H σ0 ρ0) (g : Go (Own σ0 ρ0) G H G1 H1) : ∀ {is : List Nat} {rs : List RV} {vs : List V} {σ : St} {ρ1 ρ2 : Env},
    RVs K G1 H H1 rs vs → Rel K G1 H1 σ ρ1 → (∀ a, Own σ ρ1 a → Own σ0 ρ0 a ∨ (H a = none ∧ ∀ (j : Nat) (d : D), rs[j]? = some (.fr d) → vs[j]? ≠ some (.ref a))) → (∀ (j : Nat) (d : D), ρ1[j]? = some (Cell.io d) → σ[j]? = σ0[j]? ∧ ∃ c, ρ0[j]? = some (Cell.io c)) →
    MX.putAll is rs ρ1 = some ρ2 → Rel K G1 H1 (setAll is vs σ) ρ2 ∧ Ss G H σ0 ρ0 G1 H1 (setAll is vs σ) ρ2
  | [], [], vs, σ, ρ1, ρ2, q, r, own, io, e => by
    cases e
    have es : setAll [] vs σ = σ := by cases vs <;> rfl
    rw [es]
    exact ⟨r, g, fun a h => (own a h).imp id (·.1), io⟩
  | [], _ :: _, vs, σ, ρ1, ρ2, q, r, own, io, e => by cases e
  | _ :: _, [], vs, σ, ρ1, ρ2, q, r, own, io, e => by cases e
  | i :: is, rv :: rs, vs, σ, ρ1, ρ2, q, r, own, io, e => by
    cases q with
    | cons q1 ap qs =>
      rename_i v vs
      have e : (putC i rv ρ1).bind (fun ρ1 => MX.putAll is rs ρ1) = some ρ2 := e
      cases ep : putC i rv ρ1 with
      | none => rw [ep] at e; cases e
      | some ρ3 =>
        rw [ep] at e
        have apart : ∀ (d : D) (a : Addr), rv = .fr d → v = .ref a → ∀ (j : Nat) (c : D), Owns ρ1 j c → σ[j]? ≠ some (some (.ref a)) := fun d a e1 e2 j c o z => by
          subst e1 e2
          obtain ⟨b, e3, n, _⟩ := q1
          cases e3
          rcases own a ⟨j, c, o, z⟩ with y | ⟨_, y⟩
          · obtain ⟨u, hu⟩ := r0.alive y
            rw [n] at hu; cases hu
          · exact y 0 d rfl rfl
        obtain ⟨r3, own3, io3⟩ := Rel.put1 r q1.q apart ep
        refine Rel.putAll r0 g (is := is) qs r3 (fun a h => ?_) (fun j d h => ?_) e
        · rcases own3 a h with y | ⟨d, e1, e2⟩
          · rcases own a y with z | ⟨z1, z2⟩
            · exact .inl z
            · exact .inr ⟨z1, fun j d h => z2 (j + 1) d h⟩
          · subst e1
            obtain ⟨b, e3, n, _⟩ := q1
            rw [e2] at e3
            cases e3
            exact .inr ⟨n, fun j d' h z => ap d rfl j d' h (by rw [z, e2])⟩
        · obtain ⟨y1, y2⟩ := io3 j d h
          obtain ⟨z1, z2⟩ := io j d y2
          exact ⟨y1.trans z1, z2⟩
theorem par_then {K : PySem.W.Frag} {m : MR} {is : List Nat} {DE : Ends} {σ : St} {H : Hp} (h : tMS K W (sPar is m) DE σ H) : tMR K W m σ H fun vs H1 => vs.length = is.length ∧ DE.nx (setAll is vs σ) H1 ∧ ∃ G1, Ex G1 H1 ∧ ∀ H2, Ex H1 H2 → DE.nx (setAll is vs σ) H2 := by
  obtain ⟨G, ρ, r, h⟩ := h
  refine tMR_thenS (D := DE) r h fun G1 H1 ρ1 rs vs g s r1 q h1 => ?_
  split at h1
  · rename_i ρ2 e
    have len : ∀ {is : List Nat} {rs : List RV} {ρ ρ' : Env}, MX.putAll is rs ρ = some ρ' → is.length = rs.length := by
      intro is
      induction is with
      | nil =>
        intro rs ρ ρ' e
        cases rs with
        | nil => rfl
        | cons => cases e
      | cons i is ih =>
        intro rs ρ ρ' e
        cases rs with
        | nil => cases e
        | cons x xs =>
          have e : (putC i x ρ).bind (fun ρ1 => MX.putAll is xs ρ1) = some ρ' := e
          cases ep : putC i x ρ with
          | none => rw [ep] at e; cases e
          | some ρ3 =>
            rw [ep] at e
            simp [ih e]
    have len2 : ∀ {rs : List RV} {vs : List V}, RVs K G1 H H1 rs vs → rs.length = vs.length := fun z => by
      induction z with
      | nil => rfl
      | cons _ _ _ ih => simp [ih]
    have own0 : ∀ a, Own σ ρ1 a → Own σ ρ a ∨ (H a = none ∧ ∀ (j : Nat) (d : D), rs[j]? = some (.fr d) → vs[j]? ≠ some (.ref a)) := fun a h => .inl (s.own h)
    have io0 : ∀ (j : Nat) (d : D), ρ1[j]? = some (Cell.io d) → σ[j]? = σ[j]? ∧ ∃ c, ρ[j]? = some (Cell.io c) := fun j d h => ⟨rfl, (s j).2 d h⟩
    obtain ⟨r2, s2⟩ := Rel.putAll r g (is := is) q r1 own0 io0 e
    refine ⟨by rw [← len2 q, len e], h1 _ G1 H1 s2 r2, G1, r1.sub, fun H2 ex => ?_⟩
    have g2 : Go NoI G1 H1 G1 H2 := ⟨Ex.refl G1, fun a o e _ _ => ex a o e, fun a o e => ⟨o, ex a o e⟩, fun _ _ e => .inl e, fun t => t.more (Ex.refl G1) ex, id⟩
    refine h1 _ G1 H2 ⟨s2.go.trans0 g2, s2.own, s2.io⟩ (r2.step g2 (r1.sub.trans ex))
  · exact h1.elim
theorem ms_par {i j : Nat} {m : MR} (h : PS X st (tPar i j (tMR X.K W m))) : MSt X W st (sPar [i, j] m) := by
  refine h.imp fun D σ H h => ?_
  obtain ⟨G, ρ, r, q⟩ := par_then h
  refine ⟨G, ρ, r, ?_⟩
  cases e : m ρ with
  | bad => rw [e] at q; exact q
  | ex x ρ1 => rw [e] at q; exact q
  | ok rs ρ1 =>
    rw [e] at q
    intro vs G1 H1 g r1 s z
    obtain ⟨hl, hn, _⟩ := q vs G1 H1 g r1 s z
    match vs, hl with
    | [v, w], _ => exact ⟨v, w, rfl, hn⟩
/-- .. by way of a tuple (where a name is a cell) -/
theorem ms_parT {is : List Nat} {m : MR} {n : Nat} {t : TGs} (ht : ∀ (vs : List V) (σ : St) (H : Hp) (Q : St → Hp → Prop), vs.length = is.length → Q (setAll is vs σ) H → t vs σ H Q) (hn : is.length = n) (hz : n ≤ 1000) (h : PS X st (tAsg (tTup (tMR X.K W m)) (gTup X.K n t))) : MSt X W st (sPar is m) := by
  refine h.imp fun D σ H h => ?_
  obtain ⟨G, ρ, r, q⟩ := par_then h
  refine ⟨G, ρ, r, ?_⟩
  cases e : m ρ with
  | bad => rw [e] at q; exact q
  | ex x ρ1 => rw [e] at q; exact q
  | ok rs ρ1 =>
    rw [e] at q
    intro vs G1 H1 g r1 s z
    obtain ⟨hl, _, _, _, hx⟩ := q vs G1 H1 g r1 s z
    refine ⟨small_line (by omega), fun p hp => ?_⟩
    refine ⟨p, vs, rfl, SqT.of upd_same, by omega, ht vs σ _ _ hl ?_⟩
    exact hx _ fun b u e => by rw [upd_ne (ne_of_none e hp)]; exact e
theorem tg2 {i j : Nat} (vs : List V) (σ : St) (H : Hp) (Q : St → Hp → Prop) (hl : vs.length = [i, j].length) (h : Q (setAll [i, j] vs σ) H) : gCons (gName i) (gCons (gName j) gNil) vs σ H Q := by
  match vs, hl with
  | [v, w], _ => exact ⟨v, [w], rfl, w, [], rfl, rfl, h⟩
theorem tg3 {i j k : Nat} (vs : List V) (σ : St) (H : Hp) (Q : St → Hp → Prop) (hl : vs.length = [i, j, k].length) (h : Q (setAll [i, j, k] vs σ) H) : gCons (gName i) (gCons (gName j) (gCons (gName k) gNil)) vs σ H Q := by
  match vs, hl with
  | [v, w, x], _ => exact ⟨v, [w, x], rfl, w, [x], rfl, x, [], rfl, rfl, h⟩
end
end L2.MX
end
section
set_option Elab.async false
set_option linter.all false
set_option maxRecDepth 100000
/-! MxW: while, for, what is walked, comprehensions. -/
namespace L2.MX
open PySem PySem.Spec PyProof.Rows
variable [tb : TabT]

/-! ### while -/
def loopW (c : MT) (b : MS) : Nat → Env → SR := fun n => Nat.rec (fun _ => .bad) (fun _ ih ρ => ofT (c ρ) fun k ρ1 => if k = true then (match b ρ1 with
  | .nx ρ2 => ih ρ2
  | .ct ρ2 => ih ρ2
  | .br ρ2 => .nx ρ2
  | r => r) else .nx ρ1) n
theorem loopW_succ (c : MT) (b : MS) (n : Nat) (ρ : Env) : loopW c b (n + 1) ρ = ofT (c ρ) fun k ρ1 => if k = true then (match b ρ1 with
  | .nx ρ2 => loopW c b n ρ2
  | .ct ρ2 => loopW c b n ρ2
  | .br ρ2 => .nx ρ2
  | r => r) else .nx ρ1 := rfl
def sWhile (fuel : Nat) (c : MT) (b : MS) : MS := fun ρ => loopW c b fuel ρ
section
variable {X : Cx} {W : WX} {pos : Pos}
theorem ms_while {c : Expr} {body : List Stmt} {tc : MT} {mb : MS} {fuel : Nat} (hp : PassesOwn (model X.prog X.w) X.A X.env X.xe) (hc : MTe X W c tc) (hb : MSs X W body mb) : MSt X W (.While c body [] pos) (sWhile fuel tc mb) := by
  refine (ps_while hp hc hb).imp fun DE σ H ⟨G, ρ, r, h⟩ => ?_
  refine ⟨fun m σ H => ∃ G ρ, Rel X.K G H σ ρ ∧ PostS X.K G H σ ρ W DE (loopW tc mb m ρ), ⟨fuel, G, ρ, r, h⟩, ?_⟩
  rintro m σ H ⟨G, ρ, r, h⟩
  cases m with
  | zero => exact h.elim
  | succ m =>
    rw [loopW_succ] at h
    refine tMT_thenS (D := DE) r h fun G1 H1 ρ1 k g s r1 h1 => ?_
    cases k with
    | false => exact h1 σ G1 H1 (Ss.refl _ _ _ _) r1
    | true =>
      refine ⟨fun σ2 H2 => ∃ G2 ρ2, Rel X.K G2 H2 σ2 ρ2 ∧ PostS X.K G2 H2 σ2 ρ2 W DE (loopW tc mb m ρ2), fun σ2 H2 z => ⟨m, Nat.lt_succ_self m, z⟩, G1, ρ1, r1, ?_⟩
      have h1 : PostS X.K G1 H1 σ ρ1 W DE (match mb ρ1 with
        | .nx ρ2 => loopW tc mb m ρ2
        | .ct ρ2 => loopW tc mb m ρ2
        | .br ρ2 => .nx ρ2
        | r => r) := h1
      cases e : mb ρ1 with
      | bad => rw [e] at h1; exact h1
      | nx ρ2 => rw [e] at h1; exact fun σ2 G2 H2 s2 r2 => ⟨G2, ρ2, r2, PostS.after s2 h1⟩
      | ct ρ2 => rw [e] at h1; exact fun σ2 G2 H2 s2 r2 => ⟨G2, ρ2, r2, PostS.after s2 h1⟩
      | br ρ2 => rw [e] at h1; exact h1
      | rt x ρ2 => rw [e] at h1; exact h1
      | ex x ρ2 => rw [e] at h1; exact h1
end

/-! ### what is walked -/
/-- J yields the data ds, over the plain heap G -/
structure Src (K : PySem.W.Frag) (G : Hp) (J : It) (ds : List D) : Prop where
  go : ∀ i H, i < ds.length → Ex G H → J.go i H
  yld : ∀ i H x H', i < ds.length → Ex G H → J.yld i H x H' → ∃ d, ds[i]? = some d ∧ ((H' = H ∧ Rep K G d x) ∨ ∃ T es vs, x = .ref T ∧ H T = none ∧ H' = upd H T (.tup vs) ∧ d = .tup es ∧ Reps K G es vs)
  stop : ∀ i H, ds.length ≤ i → Ex G H → J.stop i H
abbrev MIt := Env → ER (List D)
def PostI (K : PySem.W.Frag) (G H : Hp) (σ : St) (ρ : Env) (W : WX) (R : It → Hp → Prop) : ER (List D) → Prop
  | .bad => False
  | .ok ds ρ1 => ∀ J G1 H1, Go (Own σ ρ) G H G1 H1 → Rel K G1 H1 σ ρ1 → Sub ρ ρ1 → Src K G1 J ds → R J H1
  | .ex x ρ1 => ∀ cls d G1 H1, Go (Own σ ρ) G H G1 H1 → Rel K G1 H1 σ ρ1 → Sub ρ ρ1 → XRep K G1 H1 x cls d → W cls d σ H1
def tMI (K : PySem.W.Frag) (W : WX) (m : MIt) : TI := fun σ H R => ∃ G ρ, Rel K G H σ ρ ∧ PostI K G H σ ρ W R (m ρ)
abbrev MI (X : Cx) (W : WX) (tg iter : Expr) (m : MIt) : Prop := PI X tg iter (tMI X.K W m)
theorem _root_.L2.PI.imp {X : Cx} {tg e : Expr} {t t' : TI} (h : PI X tg e t) (k : ∀ σ H R, t' σ H R → t σ H R) : PI X tg e t' := ⟨fun pins s σ H R I q => h.run pins s σ H R I (k σ H R q)⟩
theorem _root_.L2.PI.or {X : Cx} {tg e : Expr} {t t' : TI} (h : PI X tg e t) (h' : PI X tg e t') : PI X tg e (fun σ H R => t σ H R ∨ t' σ H R) := ⟨fun pins s σ H R I q => q.elim (h.run pins s σ H R I) (h'.run pins s σ H R I)⟩
section
variable {K : PySem.W.Frag} {G H G1 H1 : Hp} {σ : St} {ρ ρ1 : Env} {W : WX}
theorem PostI.after {R : It → Hp → Prop} (g : Go (Own σ ρ) G H G1 H1) (s : Sub ρ ρ1) {e : ER (List D)} (h : PostI K G H σ ρ W R e) : PostI K G1 H1 σ ρ1 W R e := by
  have go2 : ∀ {G2 H2}, Go (Own σ ρ1) G1 H1 G2 H2 → Go (Own σ ρ) G H G2 H2 := fun g2 => g.trans g2 fun x z => .inl (s.own z)
  cases e with
  | bad => exact h
  | ok r ρ2 => exact fun v G2 H2 g2 r2 s2 => h v G2 H2 (go2 g2) r2 (s.trans s2)
  | ex x ρ2 => exact fun cls d G2 H2 g2 r2 s2 q => h cls d G2 H2 (go2 g2) r2 (s.trans s2) q
theorem tM_thenI {m : M} {k : RV → Env → ER (List D)} {R : V → Hp → Prop} {Q : It → Hp → Prop} (r0 : Rel K G H σ ρ) (h : PostI K G H σ ρ W Q (bindM (m ρ) k))
    (hk : ∀ G1 H1 ρ1 rv v, Ex G G1 → Rel K G1 H1 σ ρ1 → Rep K G1 rv.d v → PostI K G1 H1 σ ρ1 W Q (k rv ρ1) → R v H1) : tM K W m σ H R := by
  refine ⟨G, ρ, r0, ?_⟩
  cases e : m ρ with
  | bad =>
    rw [e] at h
    exact h
  | ex x ρ1 =>
    rw [e] at h
    exact h
  | ok rv ρ1 =>
    rw [e] at h
    intro v G1 H1 g r s q
    obtain ⟨G2, g2, r2, _, rep⟩ := publish r0 g r s q
    exact hk G2 H1 ρ1 rv v g2.ext r2 rep (PostI.after g2 s h)
theorem tMA_thenI {m : MA} {k : List Opd → Env → ER (List D)} {R : List V → Hp → Prop} {Q : It → Hp → Prop} (r0 : Rel K G H σ ρ) (h : PostI K G H σ ρ W Q (bindM (m ρ) k))
    (hk : ∀ G1 H1 ρ1 o v, Ex G G1 → Rel K G1 H1 σ ρ1 → PairAll (OpdOk K G1 σ) o v → PostI K G1 H1 σ ρ1 W Q (k o ρ1) → R v H1) : tMA K W m σ H R :=
  tMA_then (P := fun G H ρ e => PostI K G H σ ρ W Q e) r0 (fun z => z) (fun _ _ z => z) (fun _ _ _ _ g s z => PostI.after g s z) h hk
theorem src_list {a : Addr} {ds : List D} {vs : List V} (h : SqL K G a vs) (r : Reps K G ds vs) : Src K G (Itl K a) ds where
  go := fun i H hi e => ⟨vs, vs[i]'(by rw [← r.length]; exact hi), sqL_mono e h, List.getElem?_eq_getElem _⟩
  yld := fun i H x H' _ e y => by
    obtain ⟨rfl, y⟩ := y
    obtain ⟨d, e1, e2⟩ := r.get' (y vs (sqL_mono e h))
    exact ⟨d, e1, .inl ⟨rfl, e2⟩⟩
  stop := fun i H hi e => ⟨vs, sqL_mono e h, by rw [← r.length]; exact hi⟩
theorem src_tup {a : Addr} {ds : List D} {vs : List V} (h : SqT K G a vs) (r : Reps K G ds vs) : Src K G (Itt K a) ds where
  go := fun i H hi e => ⟨vs, vs[i]'(by rw [← r.length]; exact hi), sqT_mono e h, List.getElem?_eq_getElem _⟩
  yld := fun i H x H' _ e y => by
    obtain ⟨rfl, y⟩ := y
    obtain ⟨d, e1, e2⟩ := r.get' (y vs (sqT_mono e h))
    exact ⟨d, e1, .inl ⟨rfl, e2⟩⟩
  stop := fun i H hi e => ⟨vs, sqT_mono e h, by rw [← r.length]; exact hi⟩
end
/-- a list or a tuple -/
def itemsOf : D → Option (List D)
  | .lst ds => some ds
  | .flst ds => some ds
  | .tup ds => some ds
  | .ftup ds => some ds
  | _ => none
def iSeq (m : M) : MIt := fun ρ => bindM (m ρ) fun r ρ1 => match itemsOf r.d with
  | some ds => .ok ds ρ1
  | none => .bad
/-- range(n), range(a, b), range(a, b, c) -/
def smallR (i : Int) : Bool := Nat.ble i.natAbs 3999999999999999999
theorem smallR_iff {i : Int} : smallR i = true ↔ -4000000000000000000 < i ∧ i < 4000000000000000000 := by
  unfold smallR
  rw [Nat.ble_eq]
  omega
def rangeD (lo c : Int) (n : Nat) : List D := (List.range n).map fun k => .int (lo + (k : Nat) * c)
section
variable {X : Cx} {W : WX} {tg : Expr}
theorem mi_seq {e : Expr} {m : M} (h : ME X W e m) : MI X W tg e (iSeq m) := by
  refine ((pi_list (tg := tg) h).or (pi_tup h)).imp fun σ H R ⟨G, ρ, r, q⟩ => ?_
  have q : PostI X.K G H σ ρ W R (bindM (m ρ) fun r ρ1 => match itemsOf r.d with
    | some ds => .ok ds ρ1
    | none => .bad) := q
  cases em : m ρ with
  | bad => rw [em] at q; exact q.elim
  | ex x ρ1 =>
    refine .inl ⟨G, ρ, r, ?_⟩
    rw [em] at q ⊢
    exact q
  | ok rv ρ1 =>
    have end_ : ∀ {R' : V → Hp → Prop}, (∀ G1 H1 v, Rel X.K G1 H1 σ ρ1 → Rep X.K G1 rv.d v → (∀ J ds, itemsOf rv.d = some ds → Src X.K G1 J ds → R J H1) → R' v H1) → tM X.K W m σ H R' := fun {R'} hk => by
      refine ⟨G, ρ, r, ?_⟩
      rw [em]
      intro v G1 H1 g r1 s q1
      obtain ⟨G2, g2, r2, _, rep⟩ := publish r g r1 s q1
      refine hk G2 H1 v r2 rep fun J ds ei src => ?_
      rw [em] at q
      have q : PostI X.K G H σ ρ W R (match itemsOf rv.d with
        | some ds => ER.ok ds ρ1
        | none => .bad) := q
      rw [ei] at q
      exact q J G2 H1 g2 r2 s src
    cases ed : rv.d with
    | lst ds =>
      refine .inl (end_ fun G1 H1 v r1 rep k => ?_)
      rw [ed] at rep
      obtain ⟨a, vs, rfl, ha, rr⟩ := rep
      exact ⟨a, rfl, ⟨vs, SqL.of (r1.sub _ _ ha)⟩, k _ ds (by rw [ed]; rfl) (src_list (SqL.of ha) rr)⟩
    | flst ds =>
      refine .inl (end_ fun G1 H1 v r1 rep k => ?_)
      rw [ed] at rep
      obtain ⟨a, vs, rfl, ha, rr⟩ := rep
      exact ⟨a, rfl, ⟨vs, sqL_mono r1.sub ha⟩, k _ ds (by rw [ed]; rfl) (src_list ha rr)⟩
    | tup ds =>
      refine .inr (end_ fun G1 H1 v r1 rep k => ?_)
      rw [ed] at rep
      obtain ⟨a, vs, rfl, ha, rr⟩ := rep
      exact ⟨a, rfl, ⟨vs, SqT.of (r1.sub _ _ ha)⟩, k _ ds (by rw [ed]; rfl) (src_tup (SqT.of ha) rr)⟩
    | ftup ds =>
      refine .inr (end_ fun G1 H1 v r1 rep k => ?_)
      rw [ed] at rep
      obtain ⟨a, vs, rfl, ha, rr⟩ := rep
      exact ⟨a, rfl, ⟨vs, sqT_mono r1.sub ha⟩, k _ ds (by rw [ed]; rfl) (src_tup ha rr)⟩
    | _ =>
      rw [em] at q
      have q : PostI X.K G H σ ρ W R (match itemsOf rv.d with
        | some ds => ER.ok ds ρ1
        | none => .bad) := q
      rw [ed] at q
      exact q.elim
theorem smallR_ok {i : Int} (h : smallR i = true) : -(2 ^ 62) ≤ i ∧ i < 2 ^ 62 := by
  have := smallR_iff.mp h
  omega
theorem range_get {lo c : Int} {n i : Nat} (h : i < n) : (rangeD lo c n)[i]? = some (.int (lo + (i : Nat) * c)) := by
  unfold rangeD
  rw [List.getElem?_map, List.getElem?_range h]
  rfl
theorem range_len {lo c : Int} {n : Nat} : (rangeD lo c n).length = n := by unfold rangeD; rw [List.length_map, List.length_range]
theorem src_range {K : PySem.W.Frag} {G : Hp} {lo : Int} {n : Nat} : Src K G (Itr lo n) (rangeD lo 1 n) where
  go := fun i H hi _ => by rw [range_len] at hi; exact hi
  yld := fun i H x H' hi _ y => by
    obtain ⟨rfl, rfl⟩ := y
    rw [range_len] at hi
    exact ⟨_, range_get hi, .inl ⟨rfl, by rw [Int.mul_one]; rfl⟩⟩
  stop := fun i H hi _ => by rw [range_len] at hi; exact hi
theorem src_rangeC {K : PySem.W.Frag} {G : Hp} {lo c : Int} {n : Nat} : Src K G (Itc lo c n) (rangeD lo c n) where
  go := fun i H hi _ => by rw [range_len] at hi; exact hi
  yld := fun i H x H' hi _ y => by
    obtain ⟨rfl, rfl⟩ := y
    rw [range_len] at hi
    exact ⟨_, range_get hi, .inl ⟨rfl, rfl⟩⟩
  stop := fun i H hi _ => by rw [range_len] at hi; exact hi
theorem reps2_3 {K : PySem.W.Frag} {G H : Hp} {d e f : D} {xs : List V} (h : Reps2 K G H [d, e, f] xs) : ∃ v w u, xs = [v, w, u] ∧ Rep2 K G H d v ∧ Rep2 K G H e w ∧ Rep2 K G H f u := by
  cases h with
  | cons h t =>
    cases t with
    | cons h2 t2 =>
      cases t2 with
      | cons h3 t3 =>
        cases t3
        exact ⟨_, _, _, rfl, h, h2, h3⟩
/-- one argument, two, three are written: what the other counts would give is not asked -/
def iRangeN (k : Nat) (args : MA) : MIt := fun ρ => bindM (args ρ) fun os ρ1 => if os.length = k then (match getAll ρ1 os with
  | some [.int j] => if smallR j then .ok (rangeD 0 1 j.toNat) ρ1 else .bad
  | some [.int i, .int j] => if smallR i && smallR j then .ok (rangeD i 1 (j - i).toNat) ρ1 else .bad
  | some [.int i, .int j, .int c] => if (decide (0 < c) && decide (c < 1000000000)) && (Builtin.Range.small i j c && decide (0 ≤ Builtin.Range.rangeSize i j c)) then .ok (rangeD i c (Builtin.Range.rangeSize i j c).toNat) ρ1 else .bad
  | _ => .bad) else .bad
theorem getAll_len {ρ : Env} : ∀ {os : List Opd} {ds : List D}, getAll ρ os = some ds → os.length = ds.length
  | [], ds, e => by cases e; rfl
  | o :: os, ds, e => by
    unfold getAll at e
    cases q : o.get ρ with
    | none => rw [q] at e; cases e
    | some d =>
      rw [q] at e
      obtain ⟨es, e1, rfl⟩ := Option.map_eq_some_iff.mp (show (getAll ρ os).map (fun ds => d :: ds) = some ds from e)
      simp [getAll_len e1]
theorem mi_range1 {a : Expr} {ma : MA} {p pos : Pos} (hg : Gl X "range") (hm : X.mg "range" = none) (ha : MAr X W [a] ma) (hs : starEach [a] X.env = [(false, eval a X.env)] := by rfl) : MI X W tg (.Call (.Name "range" p) [a] [] pos) (iRangeN 1 ma) := by
  refine (pi_range1 hg hm ha hs).imp fun σ H R ⟨G, ρ, r, h⟩ => ?_
  refine tMA_thenI (Q := R) r h fun G1 H1 ρ1 os vs e1 r1 ov h1 => ?_
  split at h1
  · rename_i hl
    split at h1
    · rename_i j eg
      split at h1
      · rename_i hj
        obtain ⟨v, rfl, hv⟩ := reps2_1 (looks r1 ov eg)
        obtain rfl : v = .int j := hv
        exact ⟨j, rfl, (smallR_ok hj).1, (smallR_ok hj).2, h1 _ G1 H1 Go.refl r1 (Sub.refl _) src_range⟩
      · exact h1.elim
    · rename_i i j eg
      have := getAll_len eg
      rw [hl] at this; cases this
    · rename_i i j c eg
      have := getAll_len eg
      rw [hl] at this; cases this
    · exact h1.elim
  · exact h1.elim
theorem mi_range2 {a b : Expr} {ma : MA} {p pos : Pos} (hg : Gl X "range") (hm : X.mg "range" = none) (ha : MAr X W [a, b] ma) (hs : starEach [a, b] X.env = [(false, eval a X.env), (false, eval b X.env)] := by rfl) (hs2 : starEach [b] X.env = [(false, eval b X.env)] := by rfl) : MI X W tg (.Call (.Name "range" p) [a, b] [] pos) (iRangeN 2 ma) := by
  refine (pi_range2 hg hm ha hs hs2).imp fun σ H R ⟨G, ρ, r, h⟩ => ?_
  refine tMA_thenI (Q := R) r h fun G1 H1 ρ1 os vs e1 r1 ov h1 => ?_
  split at h1
  · rename_i hl
    split at h1
    · rename_i j eg
      have := getAll_len eg
      rw [hl] at this; cases this
    · rename_i i j eg
      split at h1
      · rename_i hj
        obtain ⟨v, w, rfl, hv, hw⟩ := reps2_2 (looks r1 ov eg)
        obtain rfl : v = .int i := hv
        obtain rfl : w = .int j := hw
        rw [Bool.and_eq_true] at hj
        exact ⟨i, j, rfl, ⟨(smallR_ok hj.1).1, (smallR_ok hj.1).2, (smallR_ok hj.2).1, (smallR_ok hj.2).2⟩, h1 _ G1 H1 Go.refl r1 (Sub.refl _) src_range⟩
      · exact h1.elim
    · rename_i i j c eg
      have := getAll_len eg
      rw [hl] at this; cases this
    · exact h1.elim
  · exact h1.elim
theorem mi_range3 {a b c : Expr} {ma : MA} {p pos : Pos} (hg : Gl X "range") (hm : X.mg "range" = none) (ha : MAr X W [a, b, c] ma)
    (hs : starEach [a, b, c] X.env = (false, eval a X.env) :: starEach [b, c] X.env := by rfl) (hpl : (backTo pos (starEach [b, c] X.env)).any (·.1) = false := by rfl) : MI X W tg (.Call (.Name "range" p) [a, b, c] [] pos) (iRangeN 3 ma) := by
  refine (pi_range3 hg hm ha hs hpl).imp fun σ H R ⟨G, ρ, r, h⟩ => ?_
  refine tMA_thenI (Q := R) r h fun G1 H1 ρ1 os vs e1 r1 ov h1 => ?_
  split at h1
  · rename_i hl
    split at h1
    · rename_i j eg
      have := getAll_len eg
      rw [hl] at this; cases this
    · rename_i i j eg
      have := getAll_len eg
      rw [hl] at this; cases this
    · rename_i i j c eg
      split at h1
      · rename_i hj
        obtain ⟨v, w, u, rfl, hv, hw, hu⟩ := reps2_3 (looks r1 ov eg)
        obtain rfl : v = .int i := hv
        obtain rfl : w = .int j := hw
        obtain rfl : u = .int c := hu
        simp only [Bool.and_eq_true, decide_eq_true_eq] at hj
        obtain ⟨⟨c1, c2⟩, c3, c4⟩ := hj
        exact ⟨i, j, c, _, rfl, ⟨by omega, by omega, c3, (Int.toNat_of_nonneg c4).symm⟩, h1 _ G1 H1 Go.refl r1 (Sub.refl _) src_rangeC⟩
      · exact h1.elim
    · exact h1.elim
  · exact h1.elim
end
/-! ### enumerate, zip, a text -/
def enumD : Nat → List D → List D
  | _, [] => []
  | n, d :: ds => .tup [.int (n : Nat), d] :: enumD (n + 1) ds
theorem enum_len : ∀ (ds : List D) (n : Nat), (enumD n ds).length = ds.length
  | [], _ => rfl
  | _ :: ds, n => by simp [enumD, enum_len ds]
theorem enum_get : ∀ {ds : List D} {n i : Nat} {d : D}, ds[i]? = some d → (enumD n ds)[i]? = some (.tup [.int ((n + i : Nat) : Int), d])
  | [], n, i, d, h => by simp at h
  | c :: ds, n, 0, d, h => by
    have e : c = d := Option.some.inj h
    subst e
    rfl
  | c :: ds, n, i + 1, d, h => by
    have ih := enum_get (ds := ds) (n := n + 1) (i := i) (d := d) h
    show (enumD (n + 1) ds)[i]? = _
    rw [ih, show n + 1 + i = n + (i + 1) by omega]
def listOf : D → Option (List D)
  | .lst ds => some ds
  | .flst ds => some ds
  | _ => none
theorem listOf_ok {K : PySem.W.Frag} {G : Hp} {d : D} {v : V} {ds : List D} (h : Rep K G d v) (e : listOf d = some ds) : ∃ a vs, v = .ref a ∧ SqL K G a vs ∧ Reps K G ds vs := by
  cases d with
  | lst es =>
    cases e
    obtain ⟨a, vs, rfl, ha, r⟩ := h
    exact ⟨a, vs, rfl, SqL.of ha, r⟩
  | flst es =>
    cases e
    obtain ⟨a, vs, rfl, ha, r⟩ := h
    exact ⟨a, vs, rfl, ha, r⟩
  | _ => cases e
def oneVal (os : List Opd) : Option D := match os with
  | [.val d] => some d
  | _ => none
def twoVal (os : List Opd) : Option (D × D) := match os with
  | [.val d, .val e] => some (d, e)
  | _ => none
def iEnumM (args : MA) : MIt := fun ρ => bindM (args ρ) fun os ρ1 => match (oneVal os).bind listOf with
  | some ds => .ok (enumD 0 ds) ρ1
  | none => .bad
def zipD : List D → List D → List D
  | d :: ds, e :: es => .tup [d, e] :: zipD ds es
  | _, _ => []
theorem zip_get : ∀ {ds es : List D} {i : Nat} {d e : D}, ds[i]? = some d → es[i]? = some e → (zipD ds es)[i]? = some (.tup [d, e])
  | [], _, _, _, _, h, _ => by simp at h
  | _ :: _, [], _, _, _, _, h => by simp at h
  | c :: ds, f :: es, 0, d, e, h, k => by
    have e1 : c = d := Option.some.inj h
    have e2 : f = e := Option.some.inj k
    subst e1 e2
    rfl
  | c :: ds, f :: es, i + 1, d, e, h, k => zip_get (ds := ds) (es := es) (i := i) (by simpa using h) (by simpa using k)
theorem zip_len : ∀ (ds es : List D), (zipD ds es).length = min ds.length es.length
  | [], _ => by simp [zipD]
  | _ :: _, [] => by simp [zipD]
  | _ :: ds, _ :: es => by
    simp only [zipD, List.length_cons, zip_len ds es]
    omega
def iZipM (args : MA) : MIt := fun ρ => bindM (args ρ) fun os ρ1 => match twoVal os with
  | some (d, e) => (match listOf d, listOf e with
    | some ds, some es => .ok (zipD ds es) ρ1
    | _, _ => .bad)
  | none => .bad
section
variable {X : Cx} {W : WX} {K : PySem.W.Frag}
theorem src_enum {G : Hp} {a : Addr} {ds : List D} {vs : List V} (h : SqL K G a vs) (r : Reps K G ds vs) : Src K G (Ite K a) (enumD 0 ds) where
  go := fun i H hi e => ⟨vs, vs[i]'(by rw [← r.length, ← enum_len ds 0]; exact hi), sqL_mono e h, List.getElem?_eq_getElem _⟩
  yld := fun i H x H' hi e y => by
    obtain ⟨T, z, rfl, nT, rfl, y⟩ := y
    obtain ⟨d, e1, e2⟩ := r.get' (y vs (sqL_mono e h))
    refine ⟨_, enum_get e1, .inr ⟨T, _, _, rfl, nT, rfl, rfl, _, _, rfl, ?_, _, _, rfl, e2, rfl⟩⟩
    rw [Nat.zero_add]
    rfl
  stop := fun i H hi e => ⟨vs, sqL_mono e h, by rw [← r.length, ← enum_len ds 0]; exact hi⟩
theorem src_zip {G : Hp} {a b : Addr} {ds es : List D} {vs ws : List V} (h : SqL K G a vs) (r : Reps K G ds vs) (h2 : SqL K G b ws) (r2 : Reps K G es ws) : Src K G (Itz K a b) (zipD ds es) where
  go := fun i H hi e => by
    rw [zip_len] at hi
    have l1 := r.length
    have l2 := r2.length
    exact ⟨vs, ws, vs[i]'(by omega), ws[i]'(by omega), sqL_mono e h, sqL_mono e h2, List.getElem?_eq_getElem _, List.getElem?_eq_getElem _⟩
  yld := fun i H x H' hi e y => by
    obtain ⟨T, z, u, rfl, nT, rfl, y1, y2⟩ := y
    obtain ⟨d, e1, e2⟩ := r.get' (y1 vs (sqL_mono e h))
    obtain ⟨d2, e3, e4⟩ := r2.get' (y2 ws (sqL_mono e h2))
    exact ⟨_, zip_get e1 e3, .inr ⟨T, _, _, rfl, nT, rfl, rfl, _, _, rfl, e2, _, _, rfl, e4, rfl⟩⟩
  stop := fun i H hi e => by
    rw [zip_len] at hi
    have l1 := r.length
    have l2 := r2.length
    exact ⟨vs, ws, sqL_mono e h, sqL_mono e h2, by omega⟩
theorem mi_enum {e : Expr} {ma : MA} {p pos tpos : Pos} {elts : List Expr} {kk : Nat} (hg : Gl X "enumerate") (hm : X.mg "enumerate" = none) (ha : MAr X W [e] ma) (hs : starEach [e] X.env = [(false, eval e X.env)] := by rfl) :
    MI X W (.Tuple elts kk tpos) (.Call (.Name "enumerate" p) [e] [] pos) (iEnumM ma) := by
  refine (pi_enum hg hm ha hs).imp fun σ H R ⟨G, ρ, r, h⟩ => ?_
  refine tMA_thenI (Q := R) r h fun G1 H1 ρ1 os vs e1 r1 ov h1 => ?_
  split at h1
  · rename_i ds eo
    match os, vs, ov with
    | [.val d], _, .cons q .nil =>
      have eo : listOf d = some ds := eo
      obtain ⟨a, ws, rfl, ha, rr⟩ := listOf_ok q eo
      exact ⟨a, ws, rfl, sqL_mono r1.sub ha, h1 _ G1 H1 Go.refl r1 (Sub.refl _) (src_enum ha rr)⟩
    | [.slot i], _, _ => cases eo
    | [], _, _ => cases eo
    | .val _ :: _ :: _, _, _ => cases eo
    | .slot _ :: _ :: _, _, _ => cases eo
  · exact h1.elim
theorem mi_zip {e e2 : Expr} {ma : MA} {p pos tpos : Pos} {elts : List Expr} {kk : Nat} (h : PI X (.Tuple elts kk tpos) (.Call (.Name "zip" p) [e, e2] [] pos) (iZip X.K (tMA X.K W ma))) :
    MI X W (.Tuple elts kk tpos) (.Call (.Name "zip" p) [e, e2] [] pos) (iZipM ma) := by
  refine h.imp fun σ H R ⟨G, ρ, r, h⟩ => ?_
  refine tMA_thenI (Q := R) r h fun G1 H1 ρ1 os vs e1 r1 ov h1 => ?_
  split at h1
  · rename_i d e eo
    split at h1
    · rename_i ds es ed ee
      match os, vs, ov with
      | [.val d', .val e'], _, .cons q (.cons q2 .nil) =>
        cases eo
        obtain ⟨a, ws, rfl, ha, rr⟩ := listOf_ok q ed
        obtain ⟨b, us, rfl, hb, rr2⟩ := listOf_ok q2 ee
        exact ⟨a, b, ws, us, rfl, sqL_mono r1.sub ha, sqL_mono r1.sub hb, h1 _ G1 H1 Go.refl r1 (Sub.refl _) (src_zip ha rr hb rr2)⟩
      | [], _, _ => cases eo
      | [.val _], _, _ => cases eo
      | [.slot _], _, _ => cases eo
      | .slot _ :: _ :: _, _, _ => cases eo
      | .val _ :: .slot _ :: _, _, _ => cases eo
      | .val _ :: .val _ :: _ :: _, _, _ => cases eo
    · exact h1.elim
  · exact h1.elim
end
end L2.MX
end
section
set_option Elab.async false
set_option linter.all false
set_option maxRecDepth 100000
/-! MxF: for, comprehensions. -/
namespace L2.MX
open PySem PySem.Spec PyProof.Rows
variable [tb : TabT]

/-! ### for -/
def loopF (g : G1) (b : MS) : List D → Env → SR
  | [], ρ => .nx ρ
  | d :: ds, ρ => match g d ρ with
    | none => .bad
    | some ρ1 => (match b ρ1 with
      | .nx ρ2 => loopF g b ds ρ2
      | .ct ρ2 => loopF g b ds ρ2
      | .br ρ2 => .nx ρ2
      | r => r)
def ofI (e : ER (List D)) (k : List D → Env → SR) : SR := match e with
  | .bad => .bad
  | .ok r ρ => k r ρ
  | .ex x ρ => .ex x ρ
def sFor (mi : MIt) (g : G1) (b : MS) : MS := fun ρ => ofI (mi ρ) fun ds ρ1 => loopF g b ds ρ1
section
variable {K : PySem.W.Frag} {G H : Hp} {σ : St} {ρ : Env} {W : WX}
/-- an item comes: it is plain from now on -/
theorem item_in {J : It} {ds : List D} {G0 : Hp} {i : Nat} {x : V} {H' : Hp} (src : Src K G0 J ds) (ex : Ex G0 G) (r : Rel K G H σ ρ) (hi : i < ds.length) (y : J.yld i H x H') :
    ∃ d G', ds[i]? = some d ∧ Go NoI G H G' H' ∧ Rel K G' H' σ ρ ∧ Rep K G' d x ∧ Ex G0 G' := by
  obtain ⟨d, e1, z⟩ := src.yld i H x H' hi (ex.trans r.sub) y
  rcases z with ⟨rfl, q⟩ | ⟨T, es, vs, rfl, nT, rfl, rfl, q⟩
  · exact ⟨d, G, e1, Go.refl, r, Rep.mono ex d q, ex⟩
  · have gn : G T = none := by
      cases q : G T with
      | none => rfl
      | some u => rw [r.sub T u q] at nT; cases nT
    have exG : Ex G (upd G T (.tup vs)) := fun b u e => by rw [upd_ne (ne_of_none e gn)]; exact e
    have exH : Ex H (upd H T (.tup vs)) := fun b u e => by rw [upd_ne (ne_of_none e nT)]; exact e
    have sub : Ex (upd G T (.tup vs)) (upd H T (.tup vs)) := fun b u e => by
      by_cases hb : b = T
      · rw [hb, upd_same] at e; rw [hb, upd_same]; exact e
      · rw [upd_ne hb] at e; rw [upd_ne hb]; exact r.sub b u e
    have g : Go NoI G H (upd G T (.tup vs)) (upd H T (.tup vs)) := ⟨exG, fun b u e _ _ => exH b u e, fun b u e => ⟨u, exH b u e⟩, (fun b u e => by
      by_cases hb : b = T
      · rw [hb]; exact .inr (.inl nT)
      · rw [upd_ne hb] at e; exact .inl e), fun t => t.more exG exH, nt_upd (tup_nt vs)⟩
    exact ⟨_, _, e1, g, r.step g sub, ⟨T, vs, rfl, upd_same, Reps.mono (ex.trans exG) es q⟩, ex.trans exG⟩
theorem tMI_thenS {DE : Ends} {m : MIt} {k : List D → Env → SR} {R : It → Hp → Prop} (r0 : Rel K G H σ ρ) (h : PostS K G H σ ρ W DE (ofI (m ρ) k))
    (hk : ∀ G1 H1 ρ1 ds J, Rel K G1 H1 σ ρ1 → Src K G1 J ds → PostS K G1 H1 σ ρ1 W DE (k ds ρ1) → R J H1) : tMI K W m σ H R := by
  refine ⟨G, ρ, r0, ?_⟩
  cases e : m ρ with
  | bad =>
    rw [e] at h
    exact h
  | ex x ρ1 =>
    rw [e] at h
    exact fun cls d G1 H1 g r s q => h cls d σ G1 H1 (Ss.ofE g s) r q
  | ok ds ρ1 =>
    rw [e] at h
    exact fun J G1 H1 g r s src => hk G1 H1 ρ1 ds J r src (PostS.after (Ss.ofE g s) h)
end
section
variable {X : Cx} {W : WX} {pos : Pos}
theorem ms_for {tg iter : Expr} {body : List Stmt} {mi : MIt} {g : G1} {ss : List Nat} {mb : MS} (hp : PassesOwn (model X.prog X.w) X.A X.env X.xe) (hc : X.calm = true) (hi : MI X W tg iter mi) (hg : MG X tg g ss) (hb : MSs X W body mb)
    (hs : ∀ x, foldedSetIterable iter X.env x = pure x := by intro _; rfl) : MSt X W (.For tg iter body [] pos) (sFor mi g mb) := by
  refine (ps_for hp hc hi hg hb hs).imp fun DE σ H ⟨G, ρ, r, h⟩ => ?_
  refine tMI_thenS (DE := DE) r h fun G1 H1 ρ1 ds J r1 src h1 => ?_
  refine ⟨fun i m σ H => m = ds.length - i ∧ i ≤ ds.length ∧ ∃ G ρ, Ex G1 G ∧ Rel X.K G H σ ρ ∧ PostS X.K G H σ ρ W DE (loopF g mb (ds.drop i) ρ), ⟨ds.length, by simp, Nat.zero_le _, G1, ρ1, Ex.refl _, r1, h1⟩, ?_⟩
  rintro i m σ H ⟨rfl, hle, G, ρ, ex, r, h⟩
  by_cases hlt : i < ds.length
  · refine .inr ⟨src.go i H hlt (ex.trans r.sub), fun σ2 H2 => ∃ G2 ρ2, Ex G1 G2 ∧ Rel X.K G2 H2 σ2 ρ2 ∧ PostS X.K G2 H2 σ2 ρ2 W DE (loopF g mb (ds.drop (i + 1)) ρ2), fun σ2 H2 z => ⟨ds.length - (i + 1), by omega, rfl, hlt, z⟩, fun x H' y => ?_⟩
    obtain ⟨d, G', e1, g1, r1', rep, ex'⟩ := item_in src ex r hlt y
    have ed : ds.drop i = d :: ds.drop (i + 1) := by
      obtain ⟨hi', e2⟩ := List.getElem?_eq_some_iff.mp e1
      rw [List.drop_eq_getElem_cons hi', e2]
    rw [ed] at h
    have h' : PostS X.K G' H' σ ρ W DE (loopF g mb (d :: ds.drop (i + 1)) ρ) := PostS.after (Ss.ofE (g1.weak fun _ z => z.elim) (Sub.refl ρ)) h
    unfold loopF at h'
    cases eg : g d ρ with
    | none => rw [eg] at h'; exact h'.elim
    | some ρ2 =>
      rw [eg] at h'
      refine ⟨G', ρ, d, ρ2, r1', rep, eg, fun σ1 s1 r2 _ => ?_⟩
      have h2 : PostS X.K G' H' σ1 ρ2 W DE (match mb ρ2 with
        | .nx ρ2 => loopF g mb (ds.drop (i + 1)) ρ2
        | .ct ρ2 => loopF g mb (ds.drop (i + 1)) ρ2
        | .br ρ2 => .nx ρ2
        | r => r) := PostS.after s1 h'
      refine ⟨G', ρ2, r2, ?_⟩
      cases e : mb ρ2 with
      | bad => rw [e] at h2; exact h2
      | nx ρ3 => rw [e] at h2; exact fun σ2 G2 H2 s2 r3 => ⟨G2, ρ3, ex'.trans s2.go.ext, r3, PostS.after s2 h2⟩
      | ct ρ3 => rw [e] at h2; exact fun σ2 G2 H2 s2 r3 => ⟨G2, ρ3, ex'.trans s2.go.ext, r3, PostS.after s2 h2⟩
      | br ρ3 => rw [e] at h2; exact h2
      | rt x ρ3 => rw [e] at h2; exact h2
      | ex x ρ3 => rw [e] at h2; exact h2
  · have e : i = ds.length := by omega
    subst e
    rw [List.drop_length] at h
    exact .inl ⟨src.stop _ H (Nat.le_refl _) (ex.trans r.sub), h σ G H (Ss.refl _ _ _ _) r⟩
end

/-! ### comprehensions -/
/-- the block's own slots forgotten, and as they were -/
def wipeC (vs : List Nat) (ρ : Env) : Env := ρ.mapIdx fun j c => if j ∈ vs then .un else c
def backC (vs : List Nat) (ρ0 ρ : Env) : Env := ρ.mapIdx fun j c => if j ∈ vs then (ρ0[j]?).getD .un else c
def freeAt (ρ : Env) (j : Nat) : Bool := match ρ[j]? with
  | some (.ow _) => false
  | some (.io _) => false
  | _ => true
def loopC (g : G1) (vs : List Nat) (t : MT) (e : M) : List D → Env → List D → ER (List D)
  | [], ρ, acc => .ok acc ρ
  | d :: ds, ρ, acc => match g d ρ with
    | none => .bad
    | some ρ1 => (match t ρ1 with
      | .ok false ρ2 => loopC g vs t e ds (wipeC vs ρ2) acc
      | .ok true ρ2 => (match e ρ2 with
        | .ok r ρ3 => if acc.length < lineN then loopC g vs t e ds (wipeC vs ρ3) (acc ++ [r.d]) else .bad
        | _ => .bad)
      | _ => .bad)
def mLc (mi : MIt) (g : G1) (vs : List Nat) (t : MT) (e : M) : M := fun ρ => bindM (mi ρ) fun ds ρ1 => if vs.all (freeAt ρ1) = true then (match loopC g vs t e ds (wipeC vs ρ1) [] with
  | .ok acc ρ2 => .ok (.fr (.lst acc)) (backC vs ρ1 ρ2)
  | _ => .bad) else .bad
/-- no test -/
def mtYes : MT := fun ρ => .ok true ρ
section
theorem wipe_get (σ : St) : ∀ (vs : List Nat) (j : Nat), (wipe σ vs)[j]? = if j ∈ vs then (σ[j]?).map (fun _ => none) else σ[j]?
  | [], j => by simp [wipe]
  | v :: vs, j => by
    unfold wipe
    by_cases hj : v = j
    · subst hj
      rw [if_pos List.mem_cons_self]
      by_cases hl : v < σ.length
      · rw [List.getElem?_set_self (by rw [wipe_length]; exact hl), List.getElem?_eq_getElem hl]
        rfl
      · rw [List.getElem?_eq_none (by rw [List.length_set, wipe_length]; omega), List.getElem?_eq_none (by omega)]
        rfl
    · rw [List.getElem?_set_ne hj, wipe_get σ vs j]
      by_cases hm : j ∈ vs
      · rw [if_pos hm, if_pos (List.mem_cons_of_mem _ hm)]
      · rw [if_neg hm, if_neg (by rintro (_ | ⟨_, z⟩); exact hj rfl; exact hm z)]
theorem wipe_out {vs ss : List Nat} {σ σ1 : St} (h : Out ss (wipe σ vs) σ1) (hs : ∀ j ∈ ss, j ∈ vs) : wipe σ1 vs = wipe σ vs := by
  apply List.ext_getElem?
  intro j
  have hl : σ1.length = σ.length := by rw [h.1, wipe_length]
  rw [wipe_get, wipe_get]
  by_cases hj : j ∈ vs
  · rw [if_pos hj, if_pos hj]
    by_cases hx : j < σ.length
    · rw [List.getElem?_eq_getElem hx, List.getElem?_eq_getElem (by omega)]
      rfl
    · rw [List.getElem?_eq_none (by omega), List.getElem?_eq_none (by omega)]
  · rw [if_neg hj, if_neg hj]
    have := h.2 j fun z => hj (hs j z)
    rw [this, wipe_get, if_neg hj]
theorem wipeC_get (vs : List Nat) (ρ : Env) (j : Nat) : (wipeC vs ρ)[j]? = (ρ[j]?).map fun c => if j ∈ vs then .un else c := by
  unfold wipeC
  rw [List.getElem?_mapIdx]
theorem wipeC_at {vs : List Nat} {ρ : Env} {j : Nat} {c : Cell} (h : (wipeC vs ρ)[j]? = some c) (hc : c ≠ .un) : j ∉ vs ∧ ρ[j]? = some c := by
  rw [wipeC_get] at h
  obtain ⟨c', e1, e2⟩ := Option.map_eq_some_iff.mp h
  by_cases hj : j ∈ vs
  · rw [if_pos hj] at e2; exact (hc e2.symm).elim
  · rw [if_neg hj] at e2
    exact ⟨hj, by rw [e1, e2]⟩
/-- the environment with slots forgotten, over slots forgotten -/
theorem Rel.wiped {K : PySem.W.Frag} {G H : Hp} {σ : St} {ρ : Env} (vs : List Nat) (r : Rel K G H σ ρ) : Rel K G H (wipe σ vs) (wipeC vs ρ) := by
  have own : ∀ (j : Nat) (d : D), Owns (wipeC vs ρ) j d → j ∉ vs ∧ Owns ρ j d := fun j d h => by
    rcases h with h | h
    · obtain ⟨a, b⟩ := wipeC_at h (fun z => nomatch z)
      exact ⟨a, .inl b⟩
    · obtain ⟨a, b⟩ := wipeC_at h (fun z => nomatch z)
      exact ⟨a, .inr b⟩
  have at_ : ∀ j, j ∉ vs → (wipe σ vs)[j]? = σ[j]? := fun j hj => by rw [wipe_get, if_neg hj]
  refine ⟨r.sub, by rw [wipe_length, r.len]; unfold wipeC; rw [List.length_mapIdx], fun j d h => ?_, fun j d h => ?_, fun j k d e a h1 h2 e1 e2 => ?_, r.ntb, r.tabs⟩
  · obtain ⟨hj, h⟩ := wipeC_at h (fun z => nomatch z)
    obtain ⟨v, e1, e2⟩ := r.pl j d h
    exact ⟨v, (at_ j hj).trans e1, e2⟩
  · obtain ⟨hj, o⟩ := own j d h
    obtain ⟨a, e1, n, t⟩ := r.ow j d o
    exact ⟨a, (at_ j hj).trans e1, n, t⟩
  · obtain ⟨hj, o1⟩ := own j d h1
    obtain ⟨hk, o2⟩ := own k e h2
    rw [at_ j hj] at e1
    rw [at_ k hk] at e2
    exact r.dis j k d e a o1 o2 e1 e2
end
section
variable {X : Cx} {W : WX}
abbrev W0 : WX := fun _ _ _ _ => False
/-- what is owned within the block was owned ahead of it -/
structure Bk (vs : List Nat) (ρ1 ρ : Env) : Prop where
  ow : ∀ (j : Nat) (d : D), ρ[j]? = some (Cell.ow d) → j ∉ vs ∧ ∃ c, ρ1[j]? = some (Cell.ow c)
  io : ∀ (j : Nat) (d : D), ρ[j]? = some (Cell.io d) → j ∉ vs ∧ ∃ c, ρ1[j]? = some (Cell.io c)
theorem Bk.owns {vs : List Nat} {ρ1 ρ : Env} (b : Bk vs ρ1 ρ) {j : Nat} {d : D} (h : Owns ρ j d) : j ∉ vs ∧ ∃ c, Owns ρ1 j c := by
  rcases h with h | h
  · obtain ⟨n, c, e⟩ := b.ow j d h; exact ⟨n, c, .inl e⟩
  · obtain ⟨n, c, e⟩ := b.io j d h; exact ⟨n, c, .inr e⟩
theorem Bk.own {vs : List Nat} {σ : St} {ρ1 ρ : Env} (b : Bk vs ρ1 ρ) {a : Addr} (h : Own (wipe σ vs) ρ a) : Own σ ρ1 a := by
  obtain ⟨j, d, h1, h2⟩ := h
  obtain ⟨n, c, e⟩ := b.owns h1
  rw [wipe_get, if_neg n] at h2
  exact ⟨j, c, e, h2⟩
theorem Bk.start {vs : List Nat} {ρ1 : Env} : Bk vs ρ1 (wipeC vs ρ1) :=
  ⟨fun j d h => ⟨(wipeC_at h (fun z => nomatch z)).1, d, (wipeC_at h (fun z => nomatch z)).2⟩, fun j d h => ⟨(wipeC_at h (fun z => nomatch z)).1, d, (wipeC_at h (fun z => nomatch z)).2⟩⟩
/-- a heap written at an object that none owns and none reads -/
theorem Rel.updL {K : PySem.W.Frag} {G H : Hp} {σ : St} {ρ : Env} {L : Addr} {o : HO} (r : Rel K G H σ ρ) (hL : G L = none) (hn : ¬ Own σ ρ L) (hq : ∀ u, H L = some u → NTb u) : Rel K G (upd H L o) σ ρ where
  sub := fun b u e => by
    have : b ≠ L := fun z => by rw [z, hL] at e; cases e
    rw [upd_ne this]; exact r.sub b u e
  len := r.len
  pl := r.pl
  ow := fun i d h => by
    obtain ⟨a, e, n, t⟩ := r.ow i d h
    have : a ≠ L := fun z => hn ⟨i, d, h, by rw [← z]; exact e⟩
    refine ⟨a, e, n, ?_⟩
    cases d with
    | lst ds => obtain ⟨vs, h1, h2⟩ := t; exact ⟨vs, by rw [upd_ne this]; exact h1, h2⟩
    | dic ks ds => obtain ⟨vs, h1, h2, h3⟩ := t; exact ⟨vs, by rw [upd_ne this]; exact h1, h2, h3⟩
    | ins c fs ds => obtain ⟨dx, vs, h1, h2, h3⟩ := t; exact ⟨dx, vs, by rw [upd_ne this]; exact h1, h2, h3⟩
    | _ => exact t.elim
  dis := r.dis
  ntb := r.ntb
  tabs := tabs_upd hq r.tabs
theorem no_q {H : Hp} {L : Addr} (h : H L = none) : ∀ u, H L = some u → NTb u := fun u e => by rw [h] at e; cases e
theorem lst_q {H : Hp} {L : Addr} {xs : List V} (h : H L = some (.lst xs)) : ∀ u, H L = some u → NTb u := fun u e => by rw [h] at e; cases e; exact ntb_lst _
theorem dK_q {H : Hp} {L : Addr} {xs : List (Key × V)} (h : H L = some (.dK xs)) : ∀ u, H L = some u → NTb u := fun u e => by rw [h] at e; cases e; exact ntb_dK _
theorem Go.updL {G H : Hp} {L : Addr} {o : HO} {I : Addr → Prop} (hI : I L ∨ H L = none) (hq : ∀ u, H L = some u → NTb u) : Go I G H G (upd H L o) where
  ext := Ex.refl G
  tab := tabs_upd hq
  nt := id
  keep := fun a u e n _ => by
    have : a ≠ L := fun z => by
      rcases hI with y | y
      · rw [z] at n; exact n y
      · rw [z, y] at e; cases e
    rw [upd_ne this]; exact e
  live := fun a u e => by
    by_cases z : a = L
    · rw [z, upd_same]; exact ⟨_, rfl⟩
    · rw [upd_ne z]; exact ⟨u, e⟩
  new := fun a u e => .inl e
/-- out of the block -/
theorem Rel.back {K : PySem.W.Frag} {G1 G H : Hp} {H1 : Hp} {σ : St} {ρ1 ρ : Env} {vs : List Nat} (r1 : Rel K G1 H1 σ ρ1) (ex : Ex G1 G) (hf : ∀ j ∈ vs, freeAt ρ1 j = true) (r : Rel K G H (wipe σ vs) ρ) : Rel K G H σ (backC vs ρ1 ρ) := by
  have at_ : ∀ j, j ∉ vs → (wipe σ vs)[j]? = σ[j]? := fun j hj => by rw [wipe_get, if_neg hj]
  have hl : ρ.length = ρ1.length := by rw [← r.len, wipe_length, r1.len]
  have get : ∀ j c, (backC vs ρ1 ρ)[j]? = some c → c ≠ .un → (j ∉ vs ∧ ρ[j]? = some c) ∨ (j ∈ vs ∧ ρ1[j]? = some c) := fun j c h hc => by
    unfold backC at h
    rw [List.getElem?_mapIdx] at h
    obtain ⟨c', e1, e2⟩ := Option.map_eq_some_iff.mp h
    by_cases hj : j ∈ vs
    · rw [if_pos hj] at e2
      cases q : ρ1[j]? with
      | none => rw [q] at e2; exact (hc e2.symm).elim
      | some c2 => rw [q] at e2; exact .inr ⟨hj, by rw [← e2]; rfl⟩
    · rw [if_neg hj] at e2
      exact .inl ⟨hj, by rw [e1, e2]⟩
  have ow : ∀ j d, Owns (backC vs ρ1 ρ) j d → j ∉ vs ∧ Owns ρ j d := fun j d h => by
    rcases h with h | h
    · rcases get j _ h (fun z => nomatch z) with ⟨a, b⟩ | ⟨a, b⟩
      · exact ⟨a, .inl b⟩
      · have := hf j a
        unfold freeAt at this
        rw [b] at this
        cases this
    · rcases get j _ h (fun z => nomatch z) with ⟨a, b⟩ | ⟨a, b⟩
      · exact ⟨a, .inr b⟩
      · have := hf j a
        unfold freeAt at this
        rw [b] at this
        cases this
  refine ⟨r.sub, by unfold backC; rw [List.length_mapIdx, hl, r1.len], fun j d h => ?_, fun j d h => ?_, fun j k d e a h1 h2 e1 e2 => ?_, r.ntb, r.tabs⟩
  · rcases get j _ h (fun z => nomatch z) with ⟨a, b⟩ | ⟨a, b⟩
    · obtain ⟨v, e1, e2⟩ := r.pl j d b
      exact ⟨v, (at_ j a).symm.trans e1, e2⟩
    · obtain ⟨v, e1, e2⟩ := r1.pl j d b
      exact ⟨v, e1, Rep.mono ex d e2⟩
  · obtain ⟨hj, o⟩ := ow j d h
    obtain ⟨a, e1, n, t⟩ := r.ow j d o
    exact ⟨a, (at_ j hj).symm.trans e1, n, t⟩
  · obtain ⟨hj, o1⟩ := ow j d h1
    obtain ⟨hk, o2⟩ := ow k e h2
    rw [← at_ j hj] at e1
    rw [← at_ k hk] at e2
    exact r.dis j k d e a o1 o2 e1 e2
theorem lc_then {K : PySem.W.Frag} {mi : MIt} {g : G1} {vs ss : List Nat} {mt : MT} {me : M} {σ : St} {H : Hp} {Q : VK} (hss : ∀ j ∈ ss, j ∈ vs) (h : tM K W (mLc mi g vs mt me) σ H Q) : tLc (tMI K W mi) (tMG K g ss) (tMT K W0 mt) (tM K W0 me) vs σ H Q := by
  obtain ⟨G0, ρ0, r0, h⟩ := h
  have h : PostE K G0 H σ ρ0 W Q (bindM (mi ρ0) fun ds ρ1 => if vs.all (freeAt ρ1) = true then (match loopC g vs mt me ds (wipeC vs ρ1) [] with
    | .ok acc ρ2 => .ok (.fr (.lst acc)) (backC vs ρ1 ρ2)
    | _ => .bad) else .bad) := h
  refine ⟨G0, ρ0, r0, ?_⟩
  cases em : mi ρ0 with
  | bad => rw [em] at h; exact h
  | ex x ρ1 => rw [em] at h; exact h
  | ok ds ρ1 =>
    rw [em] at h
    intro J G1 H1 g1 r1 s1 src
    have h : PostE K G0 H σ ρ0 W Q (if vs.all (freeAt ρ1) = true then (match loopC g vs mt me ds (wipeC vs ρ1) [] with
      | .ok acc ρ2 => .ok (.fr (.lst acc)) (backC vs ρ1 ρ2)
      | _ => .bad) else .bad) := h
    split at h
    · rename_i hfree
      have hf : ∀ j ∈ vs, freeAt ρ1 j = true := List.all_eq_true.mp hfree
      intro L hL
      have noL : ∀ {ρ : Env}, Bk vs ρ1 ρ → ¬ Own (wipe σ vs) ρ L := fun b o => by
        obtain ⟨u, e⟩ := r1.alive (b.own o)
        rw [hL] at e; cases e
      have gL : G1 L = none := by
        cases q : G1 L with
        | none => rfl
        | some u => rw [r1.sub L u q] at hL; cases hL
      generalize hR : loopC g vs mt me ds (wipeC vs ρ1) [] = R at h
      -- what holds between two turns
      let Pv : Nat → Hp → Prop := fun i H' => i ≤ ds.length ∧ ∃ G ρ acc vsacc, Ex G1 G ∧ Rel K G H' (wipe σ vs) ρ ∧ Go (Own σ ρ1) G1 H1 G H' ∧ Bk vs ρ1 ρ ∧ G L = none ∧ H' L = some (.lst vsacc) ∧ Reps K G acc vsacc ∧
        loopC g vs mt me (ds.drop i) ρ acc = R
      refine ⟨fun i m H' => m = ds.length - i ∧ Pv i H', ⟨ds.length, by simp, Nat.zero_le _, G1, wipeC vs ρ1, [], [], Ex.refl _, (r1.wiped vs).updL gL (noL Bk.start) (no_q hL), Go.updL (.inr hL) (no_q hL), Bk.start, gL, upd_same, rfl, hR⟩, ?_⟩
      rintro i m H' ⟨rfl, hle, G, ρ, acc, vsacc, ex, r, go, bk, nL, hLv, racc, hloop⟩
      by_cases hlt : i < ds.length
      · refine .inr ⟨src.go i H' hlt (ex.trans r.sub), Pv (i + 1), fun H2 z => ⟨ds.length - (i + 1), by omega, rfl, z⟩, fun x H2 y => ?_⟩
        obtain ⟨d, G2, e1, g2, r2, rep, ex2⟩ := item_in src ex r hlt y
        have ed : ds.drop i = d :: ds.drop (i + 1) := by
          obtain ⟨hi', e2⟩ := List.getElem?_eq_some_iff.mp e1
          rw [List.drop_eq_getElem_cons hi', e2]
        rw [ed] at hloop
        have hL2 : H2 L = some (.lst vsacc) := g2.keep L _ hLv (fun z => z) (ntb_lst _).1
        have nL2 : G2 L = none := by
          cases q : G2 L with
          | none => rfl
          | some u =>
            rcases g2.new L u q with z | z | z
            · rw [nL] at z; cases z
            · rw [hLv] at z; cases z
            · exact z.elim
        have hk : loopC g vs mt me (d :: ds.drop (i + 1)) ρ acc ≠ .bad := fun z => by
          rw [← hloop, z] at h; exact h
        have hx : ∀ x q, loopC g vs mt me (d :: ds.drop (i + 1)) ρ acc ≠ .ex x q := fun x q z => by
          rw [← hloop, z] at h; exact h
        unfold loopC at hloop hk hx
        cases eg : g d ρ with
        | none => rw [eg] at hk; exact (hk rfl).elim
        | some ρa =>
          rw [eg] at hloop hk hx
          refine ⟨G2, ρ, d, ρa, r2, rep, eg, fun σ1 sa ra ⟨out, suba⟩ => ⟨wipe_out out hss, G2, ρa, ra, ?_⟩⟩
          cases et : mt ρa with
          | bad => simp only [et] at hk; exact (hk rfl).elim
          | ex x q => simp only [et] at hk; exact (hk rfl).elim
          | ok b ρb =>
            simp only [et] at hloop hk hx
            intro G3 H3 g3 r3 s3
            have st : Ss G2 H2 (wipe σ vs) ρ G3 H3 σ1 ρb := sa.trans (Ss.ofE g3 s3)
            have bkb : ∀ {G' H' ρ'}, Ss G2 H2 (wipe σ vs) ρ G' H' σ1 ρ' → Rel K G' H' σ1 ρ' → Go (Own σ ρ1) G1 H1 G' H' ∧ H' L = some (.lst vsacc) ∧ G' L = none ∧ ¬ Own (wipe σ1 vs) (wipeC vs ρ') L := fun {G' H' ρ'} st r' => by
              refine ⟨(go.trans g2 fun _ z => z.elim).trans st.go fun x z => .inl (bk.own z), st.go.keep L _ hL2 (noL bk) (ntb_lst _).1, ?_, fun o => ?_⟩
              · cases q : G' L with
                | none => rfl
                | some u =>
                  rcases st.go.new L u q with z | z | z
                  · rw [nL2] at z; cases z
                  · rw [hL2] at z; cases z
                  · exact (noL bk z).elim
              · obtain ⟨j, d', h1, h2⟩ := o
                have o2 : Own σ1 ρ' L := by
                  rcases h1 with h1 | h1
                  · obtain ⟨a1, b1⟩ := wipeC_at h1 (fun z => nomatch z)
                    rw [wipe_get, if_neg a1] at h2
                    exact ⟨j, d', .inl b1, h2⟩
                  · obtain ⟨a1, b1⟩ := wipeC_at h1 (fun z => nomatch z)
                    rw [wipe_get, if_neg a1] at h2
                    exact ⟨j, d', .inr b1, h2⟩
                rcases st.own L o2 with z | z
                · exact noL bk z
                · rw [hL2] at z; cases z
            have bkc : ∀ {ρ'}, Sub ρ ρ' → Bk vs ρ1 (wipeC vs ρ') := fun {ρ'} sb => by
              refine ⟨fun j d' z => ?_, fun j d' z => ?_⟩
              · obtain ⟨n, y⟩ := wipeC_at z (fun z => nomatch z)
                obtain ⟨c, y⟩ := (sb j).1 d' y
                exact bk.ow j c y
              · obtain ⟨n, y⟩ := wipeC_at z (fun z => nomatch z)
                obtain ⟨c, y⟩ := (sb j).2 d' y
                exact bk.io j c y
            cases b with
            | false =>
              simp only [Bool.false_eq_true, if_false] at hloop hk ⊢
              obtain ⟨go3, hL3, nL3, no3⟩ := bkb st r3
              exact ⟨hlt, G3, wipeC vs ρb, acc, vsacc, ex2.trans st.go.ext, by rw [← wipe_out out hss]; exact r3.wiped vs, go3, bkc (suba.trans s3), nL3, hL3, Reps.mono (g2.ext.trans st.go.ext) acc racc, hloop⟩
            | true =>
              simp only [if_true] at hloop hk hx ⊢
              refine ⟨G3, ρb, r3, ?_⟩
              cases ee : me ρb with
              | bad => simp only [ee] at hk; exact (hk rfl).elim
              | ex x q => simp only [ee] at hk; exact (hk rfl).elim
              | ok rv ρc =>
                simp only [ee] at hloop hk hx
                intro v G4 H4 g4 r4 s4 q
                obtain ⟨G5, g5, r5, e5, rep5⟩ := publish r3 g4 r4 s4 q
                have st5 : Ss G2 H2 (wipe σ vs) ρ G5 H4 σ1 ρc := st.trans (Ss.ofE g5 s4)
                obtain ⟨go5, hL5, nL5, no5⟩ := bkb st5 r5
                split at hk
                · rename_i hln
                  simp only [hln, if_true] at hloop
                  refine ⟨vsacc, hL5, ?_, hlt, G5, wipeC vs ρc, acc ++ [rv.d], vsacc ++ [v], ex2.trans st5.go.ext, ?_, go5.trans (Go.updL (I := fun x => x = L) (.inl rfl) (lst_q hL5)) fun x z => .inr (by rw [z]; exact hL), bkc ((suba.trans s3).trans s4), nL5, upd_same, (Reps.mono (g2.ext.trans st5.go.ext) acc racc).append (Reps.one rep5), hloop⟩
                  · rw [← racc.length]; exact hln
                  · rw [← wipe_out out hss]
                    exact (r5.wiped vs).updL nL5 no5 (lst_q hL5)
                · exact (hk rfl).elim
      · have e : i = ds.length := by omega
        subst e
        rw [List.drop_length] at hloop
        have hloop : ER.ok acc ρ = R := hloop
        rw [← hloop] at h
        refine .inl ⟨src.stop _ H' (Nat.le_refl _) (ex.trans r.sub), h (.ref L) G H' (g1.trans go fun x z => .inl (s1.own z)) (r1.back ex hf r) (s1.trans fun j => ?_) ⟨L, rfl, g1.fresh hL, nL, vsacc, hLv, racc⟩⟩
        have gt : ∀ c, (backC vs ρ1 ρ)[j]? = some c → c ≠ .un → (j ∉ vs ∧ ρ[j]? = some c) ∨ (j ∈ vs ∧ ρ1[j]? = some c) := fun c h hc => by
          unfold backC at h
          rw [List.getElem?_mapIdx] at h
          obtain ⟨c', e1, e2⟩ := Option.map_eq_some_iff.mp h
          by_cases hj : j ∈ vs
          · rw [if_pos hj] at e2
            cases q : ρ1[j]? with
            | none => rw [q] at e2; exact (hc e2.symm).elim
            | some c2 => rw [q] at e2; exact .inr ⟨hj, by rw [← e2]; rfl⟩
          · rw [if_neg hj] at e2
            exact .inl ⟨hj, by rw [e1, e2]⟩
        refine ⟨fun d hd => ?_, fun d hd => ?_⟩
        · rcases gt _ hd (fun z => nomatch z) with ⟨_, b⟩ | ⟨_, b⟩
          · exact (bk.ow j d b).2
          · exact ⟨d, b⟩
        · rcases gt _ hd (fun z => nomatch z) with ⟨_, b⟩ | ⟨_, b⟩
          · exact (bk.io j d b).2
          · exact ⟨d, b⟩
    · exact h.elim
theorem pts_mYes : PTs X [] (tMT X.K W0 mtYes) := ⟨fun pins s σ H Q I h => pts_nil.run pins s σ H Q I (by
  obtain ⟨G, ρ, r, h⟩ := h
  exact h G H Go.refl r (Sub.refl ρ))⟩
theorem me_lc {elt tg iter : Expr} {ifs : List Expr} {scope : Scope} {own : List (Str × Nat)} {pos : Pos} {mi : MIt} {g : G1} {ss : List Nat} {mt : MT} {m : M} (hc : X.calm = true) (hN : X.N.Nodup) (hi : MI X W tg iter mi)
    (hg : ∀ (s : Shared) (H : Hp) (C : Addr) (cl : List (Str × Addr)) (fp : List Addr), MG (X.blk s H scope (compEnvC scope cl C X.env) fp) tg g ss) (ht : ∀ (s : Shared) (H : Hp) (C : Addr) (cl : List (Str × Addr)) (fp : List Addr), PTs (X.blk s H scope (compEnvC scope cl C X.env) fp) ifs (tMT X.K W0 mt))
    (he : ∀ (s : Shared) (H : Hp) (C : Addr) (cl : List (Str × Addr)) (fp : List Addr), ME (X.blk s H scope (compEnvC scope cl C X.env) fp) W0 elt m) (ok : blkC X.N X.env.scope scope own = true) (hss : (ss.all fun j => (own.map (·.2)).contains j) = true := by rfl) (hs : ∀ x, foldedSetIterable iter X.env x = pure x := by intro _; rfl) :
    ME X W (.ListComp elt [⟨tg, iter, ifs, 0⟩] scope pos) (mLc mi g (own.map (·.2)) mt m) :=
  (pe_lc hc hN hi (blkOk_by ok) hg ht he hs).imp fun σ H Q h => lc_then (ss := ss) (fun j hj => by simpa using List.all_eq_true.mp hss j hj) h
theorem ms_setLc {i : Nat} {y : Str} {py : Pos} {elt tg iter : Expr} {ifs : List Expr} {scope : Scope} {own : List (Str × Nat)} {pos spos : Pos} {mi : MIt} {g : G1} {ss : List Nat} {mt : MT} {m : M} (hc : X.calm = true) (hN : X.N.Nodup) (hy : X.N[i]? = some y) (hyl : X.env.scope.names.lookup y = some .local)
    (hsw : swapsWith (.ListComp elt [⟨tg, iter, ifs, 0⟩] scope pos) (some (.Name y py)) spos.line X.env = pure true) (hi : MI X W tg iter mi)
    (hg : ∀ (s : Shared) (H : Hp) (C : Addr) (cl : List (Str × Addr)) (fp : List Addr), MG (X.blk s H scope (compEnvC scope cl C X.env) fp) tg g ss) (ht : ∀ (s : Shared) (H : Hp) (C : Addr) (cl : List (Str × Addr)) (fp : List Addr), PTs (X.blk s H scope (compEnvC scope cl C X.env) fp) ifs (tMT X.K W0 mt))
    (he : ∀ (s : Shared) (H : Hp) (C : Addr) (cl : List (Str × Addr)) (fp : List Addr), ME (X.blk s H scope (compEnvC scope cl C X.env) fp) W0 elt m) (ok : blkC X.N X.env.scope scope own = true) (hss : (ss.all fun j => (own.map (·.2)).contains j) = true := by rfl) (hs : ∀ x, foldedSetIterable iter X.env x = pure x := by intro _; rfl) :
    MSt X W (.Assign [.Name y py] (.ListComp elt [⟨tg, iter, ifs, 0⟩] scope pos) spos) (sSet i (mLc mi g (own.map (·.2)) mt m)) :=
  (ps_setLc hc hN hy hyl hsw hi (blkOk_by ok) hg ht he hs).imp fun D σ H h => lc_then (ss := ss) (fun j hj => by simpa using List.all_eq_true.mp hss j hj) (asg_then h)
end
end L2.MX
end
section
set_option Elab.async false
set_option linter.all false
set_option maxRecDepth 100000
/-! MxG: defs and calls of defs. -/
namespace L2.MX
open PySem PySem.Spec PyProof.Rows
variable [tb : TabT]

/-- what a def answers: its parameters' cells at the end (only the in-out ones are kept) -/
inductive FR where
  | bad | rt (r : RV) (ρ : Env) | ex (x : Exc) (ρ : Env)
abbrev MF := Env → FR
def keepIo : Option Cell → Cell
  | some (.io d) => .io d
  | _ => .un
def outsOf (n : Nat) (ρ : Env) : Env := (List.range n).map fun i => keepIo ρ[i]?
def endF (n : Nat) : SR → FR
  | .nx ρ => .rt (.pl .non) (outsOf n ρ)
  | .rt r ρ => .rt r (outsOf n ρ)
  | .ex x ρ => .ex x (outsOf n ρ)
  | _ => .bad
def mDef (n l : Nat) (b : MS) : MF := fun args => if args.length = n then endF n (b (args ++ List.replicate l .un)) else .bad
def ioSub (ρ ρ1 : Env) : Prop := ∀ (i : Nat) (d : D), ρ1[i]? = some (Cell.io d) → ∃ c, ρ[i]? = some (Cell.io c)
def PostF (K : PySem.W.Frag) (G H : Hp) (σ : St) (ρ : Env) (Q : VK) (E : XK) : FR → Prop
  | .bad => False
  | .rt r ρ1 => ∀ v G1 H1, Go (Own σ ρ) G H G1 H1 → Rel K G1 H1 σ ρ1 → ioSub ρ ρ1 → RVok K G1 H H1 r v → Q v H1
  | .ex x ρ1 => ∀ cls d G1 H1, Go (Own σ ρ) G H G1 H1 → Rel K G1 H1 σ ρ1 → ioSub ρ ρ1 → XRep K G1 H1 x cls d → E cls d H1
def spM (K : PySem.W.Frag) (fm : MF) : Sp := fun vs H Q E => ∃ G ρ, Rel K G H (vs.map some) ρ ∧ PostF K G H (vs.map some) ρ Q E (fm ρ)
section
variable {K : PySem.W.Frag} {G H G1 H1 : Hp} {σ : St} {ρ : Env}
theorem get_uns {ρ : Env} {l j : Nat} {c : Cell} (h : (ρ ++ List.replicate l Cell.un)[j]? = some c) (hc : c ≠ .un) : ρ[j]? = some c := by
  by_cases hj : j < ρ.length
  · rw [List.getElem?_append_left hj] at h; exact h
  · rw [List.getElem?_append_right (by omega)] at h
    exact (hc (List.eq_of_mem_replicate (List.mem_of_getElem? h))).elim
theorem get_nos {σ : St} {l j : Nat} {x : V} (h : (σ ++ List.replicate l none)[j]? = some (some x)) : σ[j]? = some (some x) := by
  by_cases hj : j < σ.length
  · rw [List.getElem?_append_left hj] at h; exact h
  · rw [List.getElem?_append_right (by omega)] at h
    cases List.eq_of_mem_replicate (List.mem_of_getElem? h)
theorem put_nos {σ : St} {l j : Nat} {x : Option V} (h : σ[j]? = some x) : (σ ++ List.replicate l none)[j]? = some x := by
  rw [List.getElem?_append_left (List.getElem?_eq_some_iff.mp h).1]; exact h
theorem Own.uns {a : Addr} {l l' : Nat} (h : Own (σ ++ List.replicate l none) (ρ ++ List.replicate l' .un) a) : Own σ ρ a := by
  obtain ⟨j, d, o, e⟩ := h
  refine ⟨j, d, ?_, get_nos e⟩
  rcases o with o | o
  · exact .inl (get_uns o fun z => nomatch z)
  · exact .inr (get_uns o fun z => nomatch z)
theorem Rel.uns {l : Nat} (r : Rel K G H σ ρ) : Rel K G H (σ ++ List.replicate l none) (ρ ++ List.replicate l .un) := by
  have ow : ∀ j d, Owns (ρ ++ List.replicate l .un) j d → Owns ρ j d := fun j d h => by
    rcases h with h | h
    · exact .inl (get_uns h fun z => nomatch z)
    · exact .inr (get_uns h fun z => nomatch z)
  refine ⟨r.sub, by simp [r.len], fun j d h => ?_, fun j d h => ?_, fun j k d e a h1 h2 e1 e2 => r.dis j k d e a (ow j d h1) (ow k e h2) (get_nos e1) (get_nos e2), r.ntb, r.tabs⟩
  · obtain ⟨v, e, q⟩ := r.pl j d (get_uns h fun z => nomatch z)
    exact ⟨v, put_nos e, q⟩
  · obtain ⟨a, e, n, t⟩ := r.ow j d (ow j d h)
    exact ⟨a, put_nos e, n, t⟩
theorem outs_get {n j : Nat} {ρ : Env} {c : Cell} (h : (outsOf n ρ)[j]? = some c) : j < n ∧ c = keepIo ρ[j]? := by
  have h0 := h
  unfold outsOf at h h0
  rw [List.getElem?_map] at h
  obtain ⟨i, e1, e2⟩ := Option.map_eq_some_iff.mp h
  rw [List.getElem?_range] at e1
  · obtain rfl := Option.some.inj e1
    refine ⟨?_, e2.symm⟩
    have := (List.getElem?_eq_some_iff.mp h0).1
    simpa using this
  · have := (List.getElem?_eq_some_iff.mp h0).1
    simpa using this
theorem outs_at {n j : Nat} {ρ : Env} {d : D} (h : (outsOf n ρ)[j]? = some (Cell.io d)) : ρ[j]? = some (Cell.io d) ∧ j < n := by
  obtain ⟨hj, e⟩ := outs_get h
  refine ⟨?_, hj⟩
  unfold keepIo at e
  split at e
  · rename_i d' e2
    cases e
    exact e2
  · cases e
theorem outs_no {n j : Nat} {ρ : Env} {c : Cell} (h : (outsOf n ρ)[j]? = some c) : (∃ d, c = .io d) ∨ c = .un := by
  obtain ⟨_, e⟩ := outs_get h
  unfold keepIo at e
  split at e
  · exact .inl ⟨_, e⟩
  · exact .inr e
/-- the parameters behind the body -/
theorem Rel.outs {σ1 : St} {ρ1 : Env} {vs : List V} {n l : Nat} (hl : vs.length = n) (hρ : ρ.length = n) (s : Ss G H (vs.map some ++ List.replicate l none) (ρ ++ List.replicate l .un) G1 H1 σ1 ρ1) (r : Rel K G1 H1 σ1 ρ1) :
    Rel K G1 H1 (vs.map some) (outsOf n ρ1) ∧ ioSub ρ (outsOf n ρ1) := by
  have io : ∀ j d, (outsOf n ρ1)[j]? = some (Cell.io d) → ρ1[j]? = some (Cell.io d) ∧ (vs.map some)[j]? = σ1[j]? ∧ ∃ c, ρ[j]? = some (Cell.io c) := fun j d h => by
    obtain ⟨h1, hj⟩ := outs_at h
    obtain ⟨e, c, hc⟩ := s.io j d h1
    refine ⟨h1, ?_, c, get_uns hc fun z => nomatch z⟩
    rw [e, List.getElem?_append_left (by simp; omega)]
  have ow : ∀ j d, Owns (outsOf n ρ1) j d → (outsOf n ρ1)[j]? = some (Cell.io d) := fun j d h => by
    rcases h with h | h
    · rcases outs_no h with ⟨_, e⟩ | e <;> cases e
    · exact h
  refine ⟨⟨r.sub, by unfold outsOf; simp [hl], fun j d h => ?_, fun j d h => ?_, fun j k d e a h1 h2 e1 e2 => ?_, r.ntb, r.tabs⟩, fun j d h => (io j d h).2.2⟩
  · rcases outs_no h with ⟨_, e⟩ | e <;> cases e
  · obtain ⟨h1, e, _⟩ := io j d (ow j d h)
    obtain ⟨a, e1, n1, t⟩ := r.ow j d (.inr h1)
    exact ⟨a, e.trans e1, n1, t⟩
  · obtain ⟨a1, b1, _⟩ := io j d (ow j d h1)
    obtain ⟨a2, b2, _⟩ := io k e (ow k e h2)
    exact r.dis j k d e a (.inr a1) (.inr a2) (b1.symm.trans e1) (b2.symm.trans e2)
theorem pure_def {N : List Str} {vs : List V} {Q : VK} {E : XK} {n l : Nat} {m : MS} (hN : N.length = n + l) (h : spM K (mDef n l m) vs H Q E) : tMS K (fun cls d _ H => E cls d H) m { nx := fun _ H' => Q .non H', rt := Q } (start N vs) H := by
  obtain ⟨G, ρ, r, h⟩ := h
  unfold mDef at h
  by_cases hρ : ρ.length = n
  case neg =>
    rw [if_neg hρ] at h
    exact h.elim
  rw [if_pos hρ] at h
  have hl : vs.length = n := by rw [← hρ, ← r.len]; simp
  unfold start
  rw [show N.length - vs.length = l by omega]
  refine ⟨G, ρ ++ List.replicate l .un, r.uns, ?_⟩
  cases e : m (ρ ++ List.replicate l .un) with
  | bad => rw [e] at h; exact h
  | br ρ1 => rw [e] at h; exact h.elim
  | ct ρ1 => rw [e] at h; exact h.elim
  | nx ρ1 =>
    rw [e] at h
    intro σ1 G1 H1 s r1
    obtain ⟨r2, io2⟩ := r1.outs hl hρ s
    exact h .non G1 H1 (s.go.weak fun _ z => z.uns) r2 io2 rfl
  | rt rv ρ1 =>
    rw [e] at h
    intro σ1 v G1 H1 s r1 q
    obtain ⟨r2, io2⟩ := r1.outs hl hρ s
    exact h v G1 H1 (s.go.weak fun _ z => z.uns) r2 io2 q
  | ex x ρ1 =>
    rw [e] at h
    intro cls d σ1 G1 H1 s r1 q
    obtain ⟨r2, io2⟩ := r1.outs hl hρ s
    exact h cls d G1 H1 (s.go.weak fun _ z => z.uns) r2 io2 q
/-! ### the rule for a def -/
theorem def_ok {P : Program} {w : World} {mg : Str → Option Value} {base : Heap} {x qual : Str} {params : Arguments} {body : List Stmt} {scope : Scope} {dvs : List V} {kws : List (Str × V)} {f : Addr} {fd : FuncData} {N ps : List Str} {k n : Nat} (l : Nat) {m : MS} (F : FunD K x qual params body scope dvs kws f fd) (S : FnScope N ps scope) (hn : ps.length = n) (hN : N.length = n + l)
    (hbody : ∀ (cdv : Value) (A : Around) (outer : List PySem.Env) (s : Shared) (H : Hp) (E : XK), Room k (A.deeper (envOfC qual scope s.heap.objs.size f cdv)) → MSs (cxOf (L2.CX P w) P w K mg base N qual scope f cdv A outer s H E) (fun cls d _ H => E cls d H) body m) :
    FnOk P w K mg base (L2.CX P w) (k + 1) f fd ps (spM K (mDef n l m)) :=
  F.ok S (fun vs H Q E ⟨G, ρ, r, h⟩ => by
    unfold mDef at h
    split at h
    · rename_i hρ
      rw [hn, ← hρ, ← r.len]; simp
    · exact h.elim) fun cdv A outer s H vs Q E hr h => ⟨_, hbody cdv A outer s H E hr, pure_def hN h⟩
end
/-! ### calls -/
def plainsOf (ρ : Env) : List Opd → Option Env
  | [] => some []
  | .val d :: os => (plainsOf ρ os).map fun cs => .pl d :: cs
  | .slot i :: os => (match ρ[i]? with
    | some (.pl d) => (plainsOf ρ os).map fun cs => .pl d :: cs
    | _ => none)
def scal : D → Bool
  | .non => true
  | .bl _ => true
  | .int _ => true
  | .str _ => true
  | _ => false
def scV : D → V
  | .bl b => .bl b
  | .int i => .int i
  | .str x => .str x
  | _ => .non
/-- all arguments plain -/
def mCallP (dfl : List D) (fm : MF) (args : MA) : M := fun ρ => bindM (args ρ) fun os ρ1 => match plainsOf ρ1 os with
  | some cs => (match fm (cs ++ dfl.map Cell.pl) with
    | .bad => .bad
    | .rt r _ => .ok r ρ1
    | .ex x _ => .ex x ρ1)
  | none => .bad
/-- the first argument is an owned name, written by the callee -/
def mCallQ (dfl : List D) (fm : MF) (args : MA) : M := fun ρ => bindM (args ρ) fun os ρ1 => match os with
  | .slot i :: os => (match plainsOf ρ1 os, ownedAt ρ1 i with
    | some cs, some d => (match fm (.io d :: (cs ++ dfl.map Cell.pl)) with
      | .bad => .bad
      | .rt r (.io d' :: _) => .ok r (setOwn ρ1 i d')
      | .ex x (.io d' :: _) => .ex x (setOwn ρ1 i d')
      | _ => .bad)
    | _, _ => .bad)
  | _ => .bad
section
variable {K : PySem.W.Frag} {G H G1 H1 : Hp} {σ : St} {ρ : Env} {W : WX}
theorem scV_rep : ∀ {d : D}, scal d = true → Rep K G d (scV d)
  | .non, _ => rfl
  | .bl _, _ => rfl
  | .int _, _ => rfl
  | .str _, _ => rfl
  | .tup _, h => by cases h
  | .lst _, h => by cases h
  | .flst _, h => by cases h
  | .ftup _, h => by cases h
  | .dic _ _, h => by cases h
  | .ins _ _ _, h => by cases h
  | .clo _ _, h => by cases h
theorem plains_rep (r : Rel K G H σ ρ) : ∀ {os : List Opd} {vs : List V} {cs : Env}, PairAll (OpdOk K G σ) os vs → plainsOf ρ os = some cs → ∃ ds, cs = ds.map Cell.pl ∧ Reps K G ds vs
  | _, _, _, .nil, e => by cases e; exact ⟨[], rfl, rfl⟩
  | _, _, _, .cons (o := o) (os := os) h t, e => by
    cases o with
    | val d =>
      have e : (plainsOf ρ os).map (fun cs => Cell.pl d :: cs) = some _ := e
      obtain ⟨cs, e1, rfl⟩ := Option.map_eq_some_iff.mp e
      obtain ⟨ds, rfl, q⟩ := plains_rep r t e1
      exact ⟨d :: ds, rfl, _, _, rfl, h, q⟩
    | slot i =>
      have h : σ[i]? = some (some _) := h
      unfold plainsOf at e
      cases q : ρ[i]? with
      | none => rw [q] at e; cases e
      | some c =>
        rw [q] at e
        cases c with
        | pl d =>
          have e : (plainsOf ρ os).map (fun cs => Cell.pl d :: cs) = some _ := e
          obtain ⟨cs, e1, rfl⟩ := Option.map_eq_some_iff.mp e
          obtain ⟨ds, rfl, q2⟩ := plains_rep r t e1
          obtain ⟨v, e2, q3⟩ := r.pl i d q
          rw [h] at e2; cases e2
          exact ⟨d :: ds, rfl, _, _, rfl, q3, q2⟩
        | un => cases e
        | ow d => cases e
        | io d => cases e
theorem dfl_reps : ∀ {dfl : List D}, dfl.all scal = true → Reps K G dfl (dfl.map scV)
  | [], _ => rfl
  | d :: ds, h => by
    have h : (scal d && ds.all scal) = true := h
    rw [Bool.and_eq_true] at h
    exact ⟨_, _, rfl, scV_rep h.1, dfl_reps h.2⟩
theorem plain_rel (s : Ex G H) (nt : NoTab G) (ht : TabG tb.T G H) {ds : List D} {vs : List V} (h : Reps K G ds vs) : Rel K G H (vs.map some) (ds.map Cell.pl) := by
  have pl : ∀ j c, (ds.map Cell.pl)[j]? = some c → ∃ d, c = Cell.pl d ∧ ds[j]? = some d := fun j c z => by
    rw [List.getElem?_map] at z
    obtain ⟨d, e1, e2⟩ := Option.map_eq_some_iff.mp z
    exact ⟨d, e2.symm, e1⟩
  have no : ∀ j d, ¬ Owns (ds.map Cell.pl) j d := fun j d z => by
    rcases z with z | z
    · obtain ⟨_, e, _⟩ := pl j _ z; cases e
    · obtain ⟨_, e, _⟩ := pl j _ z; cases e
  refine ⟨s, by simp [h.length], fun j d z => ?_, fun j d z => (no j d z).elim, fun j k d e a h1 => (no j d h1).elim, nt, ht⟩
  obtain ⟨d', e, z⟩ := pl j _ z
  cases e
  obtain ⟨v, e1, e2⟩ := h.get z
  exact ⟨v, by simp [e1], e2⟩
theorem plain_noown {ds : List D} {a : Addr} : ¬ Own σ (ds.map Cell.pl) a := fun ⟨j, d, o, _⟩ => by
  rcases o with o | o
  · rw [List.getElem?_map] at o
    obtain ⟨_, _, e⟩ := Option.map_eq_some_iff.mp o
    cases e
  · rw [List.getElem?_map] at o
    obtain ⟨_, _, e⟩ := Option.map_eq_some_iff.mp o
    cases e
theorem callP_then {dfl : List D} {fm : MF} {ma : MA} {Q : VK} (hd : dfl.all scal = true) (h : tM K W (mCallP dfl fm ma) σ H Q) : tCallSD (spM K fm) (dfl.map scV) (WE W) (tMA K W ma) σ H Q := by
  obtain ⟨G, ρ, r0, h⟩ := h
  refine tMA_thenE (Q := Q) r0 h fun G1 H1 ρ1 os vs e1 r1 ovs h1 => ?_
  split at h1
  · rename_i cs e
    obtain ⟨ds, rfl, q⟩ := plains_rep r1 ovs e
    have rr := q.append (dfl_reps (K := K) (G := G1) hd)
    refine ⟨G1, (ds ++ dfl).map Cell.pl, plain_rel r1.sub r1.ntb r1.tabs rr, ?_⟩
    rw [← List.map_append] at h1
    split at h1
    · exact h1.elim
    · rename_i rv ρc e2
      rw [e2]
      intro v G2 H2 g r2 _ q2
      have g' : Go NoI G1 H1 G2 H2 := g.weak fun _ z => plain_noown z
      exact PostE.done r1 h1 g' r2.sub q2
    · rename_i x ρc e2
      rw [e2]
      intro cls d G2 H2 g r2 _ q2
      have g' : Go NoI G1 H1 G2 H2 := g.weak fun _ z => plain_noown z
      exact h1 cls d G2 H2 (g'.weak fun _ z => z.elim) (r1.step g' r2.sub) (Sub.refl _) q2
  · exact h1.elim
theorem lend_own {a : Addr} {d : D} {ds : List D} {vs : List V} (b : Addr) (h : Own ((V.ref a :: vs).map some) (.io d :: ds.map Cell.pl) b) : b = a := by
  obtain ⟨j, c, o, e⟩ := h
  cases j with
  | zero =>
    have e : some (some (V.ref a)) = some (some (V.ref b)) := e
    cases e; rfl
  | succ j =>
    exfalso
    have o' : Owns (ds.map Cell.pl) j c := by
      rcases o with o | o
      · exact .inl (by simpa using o)
      · exact .inr (by simpa using o)
    have : Own (vs.map some) (ds.map Cell.pl) b := ⟨j, c, o', by simpa using e⟩
    exact plain_noown this
theorem lend_rel (s : Ex G H) (nt : NoTab G) (ht : TabG tb.T G H) {a : Addr} {d : D} {ds : List D} {vs : List V} (ha : G a = none) (t : Top K G H a d) (h : Reps K G ds vs) : Rel K G H ((V.ref a :: vs).map some) (.io d :: ds.map Cell.pl) := by
  have r := plain_rel (K := K) s nt ht h
  have ow : ∀ j c, Owns (Cell.io d :: ds.map Cell.pl) j c → j = 0 ∧ c = d := fun j c o => by
    cases j with
    | zero =>
      rcases o with o | o
      · have o : some (Cell.io d) = some (Cell.ow c) := o
        cases o
      · have o : some (Cell.io d) = some (Cell.io c) := o
        cases o; exact ⟨rfl, rfl⟩
    | succ j =>
      exfalso
      rcases o with o | o
      · have o : (ds.map Cell.pl)[j]? = _ := o
        rw [List.getElem?_map] at o
        obtain ⟨_, _, e⟩ := Option.map_eq_some_iff.mp o
        cases e
      · have o : (ds.map Cell.pl)[j]? = _ := o
        rw [List.getElem?_map] at o
        obtain ⟨_, _, e⟩ := Option.map_eq_some_iff.mp o
        cases e
  refine ⟨s, by have := r.len; simp at this ⊢; exact this, fun j c h => ?_, fun j c o => ?_, fun j k c c' b o1 o2 _ _ => by rw [(ow j c o1).1, (ow k c' o2).1], nt, ht⟩
  · cases j with
    | zero => cases h
    | succ j => exact r.pl j c h
  · obtain ⟨rfl, rfl⟩ := ow j c o
    exact ⟨a, rfl, ha, t⟩
/-- what was lent comes back -/
theorem lend_back {ρ1 : Env} {G2 H2 : Hp} {i : Nat} {a : Addr} {d d' : D} {ds : List D} {vs : List V} {ρc : Env} (r1 : Rel K G1 H1 σ ρ1) (o : Owns ρ1 i d) (ea : σ[i]? = some (some (.ref a))) (g : Go (Own ((V.ref a :: vs).map some) (.io d :: ds.map Cell.pl)) G1 H1 G2 H2)
    (r2 : Rel K G2 H2 ((V.ref a :: vs).map some) (.io d' :: ρc)) : Go (Own σ ρ1) G1 H1 G2 H2 ∧ Rel K G2 H2 σ (setOwn ρ1 i d') ∧ Sub ρ1 (setOwn ρ1 i d') := by
  obtain ⟨at_, hl⟩ := setOwn_at (d' := d') o
  obtain ⟨b, e1, n, t⟩ := r2.ow 0 d' (.inr rfl)
  have e1 : some (some (V.ref a)) = some (some (V.ref b)) := e1
  cases e1
  have g' : Go (fun b => b = a) G1 H1 G2 H2 := g.weak fun b z => lend_own b z
  have own : ∀ (j : Nat) (c : D), Owns (setOwn ρ1 i d') j c → (j = i ∧ c = d') ∨ (j ≠ i ∧ Owns ρ1 j c) := fun j c z => by
    rcases z with z | z
    · rcases at_ j _ z with ⟨e, y⟩ | ⟨n, y⟩
      · rcases y with ⟨_, y⟩ | ⟨_, y⟩
        · cases y; exact .inl ⟨e, rfl⟩
        · cases y
      · exact .inr ⟨n, .inl y⟩
    · rcases at_ j _ z with ⟨e, y⟩ | ⟨n, y⟩
      · rcases y with ⟨_, y⟩ | ⟨_, y⟩
        · cases y
        · cases y; exact .inl ⟨e, rfl⟩
      · exact .inr ⟨n, .inr y⟩
  have own0 : ∀ (j : Nat) (c : D), Owns (setOwn ρ1 i d') j c → ∃ c', Owns ρ1 j c' := fun j c z => by
    rcases own j c z with ⟨e, _⟩ | ⟨_, y⟩
    · exact ⟨d, e ▸ o⟩
    · exact ⟨c, y⟩
  refine ⟨g'.weak fun b z => ⟨i, d, o, by rw [z]; exact ea⟩, ⟨r2.sub, by rw [hl]; exact r1.len, fun j c z => ?_, fun j c z => ?_, fun j k c c' b z1 z2 => ?_, r2.ntb, r2.tabs⟩, fun j => ⟨fun c z => ?_, fun c z => ?_⟩⟩
  · rcases at_ j _ z with ⟨e, y⟩ | ⟨n2, y⟩
    · rcases y with ⟨_, y⟩ | ⟨_, y⟩ <;> cases y
    · obtain ⟨v, e, q⟩ := r1.pl j c y
      exact ⟨v, e, Rep.mono g'.ext c q⟩
  · rcases own j c z with ⟨rfl, rfl⟩ | ⟨n2, y⟩
    · exact ⟨a, ea, n, t⟩
    · obtain ⟨b, e1, n1, t1⟩ := r1.ow j c y
      have ne : b ≠ a := fun z => n2 (r1.dis j i c d b y o e1 (by rw [ea, z]))
      refine ⟨b, e1, ?_, t1.mono g'.ext fun p hp => g'.keep b p hp ne⟩
      cases q : G2 b with
      | none => rfl
      | some u =>
        obtain ⟨w, hw⟩ := t1.alive
        rcases g'.new b u q with z | z | z
        · rw [n1] at z; cases z
        · rw [hw] at z; cases z
        · exact (ne z).elim
  · obtain ⟨c1, y1⟩ := own0 j c z1
    obtain ⟨c2, y2⟩ := own0 k c' z2
    exact r1.dis j k c1 c2 b y1 y2
  · rcases at_ j _ z with ⟨e, y⟩ | ⟨_, y⟩
    · rcases y with ⟨y1, y⟩ | ⟨y1, y⟩
      · rw [e]; exact ⟨d, y1⟩
      · cases y
    · exact ⟨c, y⟩
  · rcases at_ j _ z with ⟨e, y⟩ | ⟨_, y⟩
    · rcases y with ⟨y1, y⟩ | ⟨y1, y⟩
      · cases y
      · rw [e]; exact ⟨d, y1⟩
    · exact ⟨c, y⟩
theorem callQ_then {dfl : List D} {fm : MF} {ma : MA} {Q : VK} (hd : dfl.all scal = true) (h : tM K W (mCallQ dfl fm ma) σ H Q) : tCallSD (spM K fm) (dfl.map scV) (WE W) (tMA K W ma) σ H Q := by
  obtain ⟨G, ρ, r0, h⟩ := h
  refine tMA_thenE (Q := Q) r0 h fun G1 H1 ρ1 os vs e1 r1 ovs h1 => ?_
  split at h1
  · rename_i i os
    split at h1
    · rename_i cs d e eo
      cases ovs with
      | cons ov ovs =>
        rename_i v vs
        obtain ⟨ds, rfl, q⟩ := plains_rep r1 ovs e
        have rr := q.append (dfl_reps (K := K) (G := G1) hd)
        have o := ownedAt_owns eo
        obtain ⟨a, ea, n, t⟩ := r1.ow i d o
        have ov : σ[i]? = some (some v) := ov
        rw [ea] at ov; cases ov
        refine ⟨G1, .io d :: (ds ++ dfl).map Cell.pl, lend_rel r1.sub r1.ntb r1.tabs n t rr, ?_⟩
        rw [← List.map_append] at h1
        split at h1
        · exact h1.elim
        · rename_i rv d' ρc e2
          rw [e2]
          intro v G2 H2 g r2 _ q2
          obtain ⟨g3, r3, s3⟩ := lend_back r1 o ea g r2
          exact h1 v G2 H2 g3 r3 s3 q2
        · rename_i x d' ρc e2
          rw [e2]
          intro cls dx G2 H2 g r2 _ q2
          obtain ⟨g3, r3, s3⟩ := lend_back r1 o ea g r2
          exact h1 cls dx G2 H2 g3 r3 s3 q2
        · exact h1.elim
    · exact h1.elim
  · exact h1.elim
end
theorem takes0 {X : Cx} : Takes X W0 := fun _ _ ⟨_, _, _, _, _, _, _, _, _, _, _, _, _, _, _, _, w⟩ => w.elim
section
variable {X : Cx} {W : WX} {e : Expr} {es : List Expr} {ma : MA} {fm : MF} {dfl : List D} {x : Str} {p pos : Pos} {k : Nat} {f : Addr} {fd : FuncData} {ps : List Str} {ds : List Value}
theorem me_callP (F : FnOk X.prog X.w X.K X.mg X.base (L2.CX X.prog X.w) k f fd ps (spM X.K fm)) (hr : Room k X.A) (hg : Gl X x) (hm : X.mg x = some (.ref f)) (hk : PySem.W.keepIn X.K (.ref f) = true) (hb : Binds X.K fd ps ds) (hd : Vals (dfl.map scV) ds) (tk : Takes X W)
    (ha : MAr X W (e :: es) ma) (hsc : dfl.all scal = true := by rfl) (hdb : (x == ("__debug__" : Str)) = false := by decide) (he : starEach (e :: es) X.env = (false, eval e X.env) :: starEach es X.env := by rfl) (hpl : (backTo pos (starEach es X.env)).any (·.1) = false := by rfl) :
    ME X W (.Call (.Name x p) (e :: es) [] pos) (mCallP dfl fm ma) := (pe_callSD F hr hg hm hk hb hd (fun σ => passAt tk σ) ha hdb he hpl).imp fun _ _ _ h => callP_then hsc h
theorem me_callQ (F : FnOk X.prog X.w X.K X.mg X.base (L2.CX X.prog X.w) k f fd ps (spM X.K fm)) (hr : Room k X.A) (hg : Gl X x) (hm : X.mg x = some (.ref f)) (hk : PySem.W.keepIn X.K (.ref f) = true) (hb : Binds X.K fd ps ds) (hd : Vals (dfl.map scV) ds) (tk : Takes X W)
    (ha : MAr X W (e :: es) ma) (hsc : dfl.all scal = true := by rfl) (hdb : (x == ("__debug__" : Str)) = false := by decide) (he : starEach (e :: es) X.env = (false, eval e X.env) :: starEach es X.env := by rfl) (hpl : (backTo pos (starEach es X.env)).any (·.1) = false := by rfl) :
    ME X W (.Call (.Name x p) (e :: es) [] pos) (mCallQ dfl fm ma) := (pe_callSD F hr hg hm hk hb hd (fun σ => passAt tk σ) ha hdb he hpl).imp fun _ _ _ h => callQ_then hsc h
end
end L2.MX
end
section
set_option Elab.async false
set_option linter.all false
set_option maxRecDepth 100000
/-! MxH: isinstance, bit_length, len(set(..)), sorted, min. -/
namespace L2.MX
open PySem PySem.Spec PyProof.Rows
variable [tb : TabT]

/-! ### isinstance -/
inductive Ty where
  | int | bool | str | list | tuple | dict
def Ty.n : Ty → String
  | .int => "int"
  | .bool => "bool"
  | .str => "str"
  | .list => "list"
  | .tuple => "tuple"
  | .dict => "dict"
inductive Kd where
  | non | bool | int | str | tuple | list | dict
def Kd.n : Kd → String
  | .non => "NoneType"
  | .bool => "bool"
  | .int => "int"
  | .str => "str"
  | .tuple => "tuple"
  | .list => "list"
  | .dict => "dict"
def kdD : D → Kd
  | .non => .non
  | .bl _ => .bool
  | .int _ => .int
  | .str _ => .str
  | .tup _ => .tuple
  | .ftup _ => .tuple
  | .lst _ => .list
  | .flst _ => .list
  | .dic _ _ => .dict
  | .ins _ _ _ => .non
  | .clo _ _ => .non
/-- no instance, no lambda -/
def flatK : D → Bool
  | .ins _ _ _ => false
  | .clo _ _ => false
  | _ => true
def isK : Ty → Kd → Bool
  | .int, .int => true
  | .int, .bool => true
  | .bool, .bool => true
  | .str, .str => true
  | .list, .list => true
  | .tuple, .tuple => true
  | .dict, .dict => true
  | _, _ => false
def tyD (d : D) : String := (kdD d).n
def isTy (t : Ty) (d : D) : Bool := isK t (kdD d)
theorem kit_one (K : PySem.W.Frag) (t : Ty) (d : D) : PySem.W.kitOne K (.type (tyD d)) (.type t.n) = some (isTy t d) := by
  unfold tyD isTy
  generalize kdD d = k
  refine kit_ty ?_
  cases t <;> cases k <;> decide +kernel
theorem kit_any (K : PySem.W.Frag) (d : D) : ∀ ts : List Ty, PySem.W.kitAny K (.type (tyD d)) (ts.map fun t => Value.type t.n) = some (ts.any fun t => isTy t d)
  | [] => rfl
  | t :: ts => by
    refine kitAny_cons (kit_one K t d) (fun h => ?_) fun h => ?_
    · show _ = some (isTy t d || _)
      rw [h, Bool.false_or]
      exact kit_any K d ts
    · show (isTy t d || _) = true
      rw [h, Bool.true_or]
theorem tyx_of {K : PySem.W.Frag} {G H : Hp} (s : Ex G H) : ∀ {d : D} {v : V}, flatK d = true → Rep2 K G H d v → TyX K H v (.type (tyD d))
  | .ins _ _ _, _, z, _ => by cases z
  | .clo _ _, _, z, _ => by cases z
  | .non, _, _, h => by obtain rfl : _ = V.non := h; exact .base .non
  | .bl b, _, _, h => by obtain rfl : _ = V.bl b := h; exact .base (.bl b)
  | .int b, _, _, h => by obtain rfl : _ = V.int b := h; exact .base (.int b)
  | .str b, _, _, h => by obtain rfl : _ = V.str b := h; exact .base (.str b)
  | .tup ds, _, _, h => by obtain ⟨a, vs, rfl, e, _⟩ := h; exact .base (.tup (s _ _ e))
  | .lst ds, _, _, h => by obtain ⟨a, vs, rfl, e, _⟩ := h; exact .base (.lst e)
  | .dic ks ds, _, _, h => by obtain ⟨a, vs, rfl, e, _⟩ := h; exact .base (.dK e)
  | .flst ds, _, _, h => by
    obtain ⟨a, vs, rfl, e, _⟩ := h
    rcases e with (e | ⟨o, e⟩) | ⟨o, its, n, e, c, _⟩
    · exact .base (.lst e)
    · exact .base (.frz e)
    · exact .kList e c
  | .ftup ds, _, _, h => by
    obtain ⟨a, vs, rfl, e, _⟩ := h
    rcases e with (e | ⟨o, e⟩) | ⟨o, its, n, e, c, _⟩
    · exact .base (.tup e)
    · exact .fTuple e
    · exact .kTuple e c
def dIsi (ts : List Ty) : D → Option RV := fun d => if flatK d = true then pB (ts.any fun t => isTy t d) else none
def mIsi (ts : List Ty) (m : MO) : M := mUn (dIsi ts) m
section
variable {X : Cx} {W : WX} {a : Expr} {m : MO} {p p2 tp pos : Pos} {tx : Str}
theorem me_isi (t : Ty) (ha : MOp X W a m) (hg : Gl X "isinstance" := by rfl) (hm : X.mg "isinstance" = none) (hg2 : Gl X tx := by rfl) (hm2 : X.mg tx = none) (hv2 : bootBuiltins tx = some (.type t.n)) (hn : tx ≠ "__name__" := by decide) (hdb : (tx == ("__debug__" : Str)) = false := by decide)
    (he : starEach [a, .Name tx p2] X.env = (false, eval a X.env) :: starEach [.Name tx p2] X.env := by rfl) (he2 : starEach [.Name tx p2] X.env = (false, eval (.Name tx p2) X.env) :: starEach [] X.env := by rfl) (hpl : (backTo pos (starEach [.Name tx p2] X.env)).any (·.1) = false := by rfl) :
    ME X W (.Call (.Name "isinstance" p) [a, .Name tx p2] [] pos) (mIsi [t] m) := by
  have pt : PE X (.Name tx p2) (tC (.ty t.n)) := pe_bltn hg2 hm2 hv2 rfl hn hdb
  refine (pe_callB call_isi hg hm (by decide +kernel) (pa_cons ha (pa_cons pt pa_nil he2) he) (he := he) (hpl := hpl)).imp fun σ H Q ⟨G, ρ, r0, h⟩ => ?_
  refine tMO_thenE (Q := Q) r0 h fun G1 H1 ρ1 o v e1 r1 ov h1 => ?_
  show ∃ (x c : V) (t' u : Value) (b : Bool), _
  unfold ap1 at h1
  split at h1
  · rename_i d ed
    have rep := ov.look r1 ed
    have ea : ([t].any fun t => isTy t d) = isTy t d := by simp
    by_cases fl : flatK d = true
    case neg =>
      simp only [dIsi, fl] at h1
      exact h1.elim
    have h1 : PostE X.K G1 H1 σ ρ1 W Q (.ok (.pl (.bl ([t].any fun t => isTy t d))) ρ1) := by
      simp only [dIsi, fl, if_true] at h1
      exact h1
    rw [ea] at h1
    exact ⟨v, .ty t.n, _, .type t.n, isTy t d, rfl, .ty _, tyx_of r1.sub fl rep, kit_one _ t d, PostE.done r1 h1 Go.refl r1.sub rfl⟩
  · exact h1.elim
/-- isinstance(x, (t1, t2)) -/
theorem me_isi2 {tx2 : Str} {p3 p4 : Pos} {j : Nat} (t t2 : Ty) (ha : MOp X W a m) (hg : Gl X "isinstance" := by rfl) (hm : X.mg "isinstance" = none) (hg2 : Gl X tx := by rfl) (hm2 : X.mg tx = none) (hv2 : bootBuiltins tx = some (.type t.n)) (hg3 : Gl X tx2 := by rfl) (hm3 : X.mg tx2 = none) (hv3 : bootBuiltins tx2 = some (.type t2.n)) (hn : tx ≠ "__name__" := by decide) (hdb : (tx == ("__debug__" : Str)) = false := by decide) (hn2 : tx2 ≠ "__name__" := by decide) (hdb2 : (tx2 == ("__debug__" : Str)) = false := by decide)
    (he : starEach [a, .Tuple [.Name tx p2, .Name tx2 p3] j p4] X.env = (false, eval a X.env) :: starEach [.Tuple [.Name tx p2, .Name tx2 p3] j p4] X.env := by rfl)
    (he2 : starEach [.Tuple [.Name tx p2, .Name tx2 p3] j p4] X.env = (false, eval (.Tuple [.Name tx p2, .Name tx2 p3] j p4) X.env) :: starEach [] X.env := by rfl)
    (he3 : starEach [.Name tx p2, .Name tx2 p3] X.env = (false, eval (.Name tx p2) X.env) :: starEach [.Name tx2 p3] X.env := by rfl) (he4 : starEach [.Name tx2 p3] X.env = (false, eval (.Name tx2 p3) X.env) :: starEach [] X.env := by rfl)
    (hpl : (backTo pos (starEach [.Tuple [.Name tx p2, .Name tx2 p3] j p4] X.env)).any (·.1) = false := by rfl) :
    ME X W (.Call (.Name "isinstance" p) [a, .Tuple [.Name tx p2, .Name tx2 p3] j p4] [] pos) (mIsi [t, t2] m) := by
  have pt : PE X (.Name tx p2) (tC (.ty t.n)) := pe_bltn hg2 hm2 hv2 rfl hn hdb
  have pt2 : PE X (.Name tx2 p3) (tC (.ty t2.n)) := pe_bltn hg3 hm3 hv3 rfl hn2 hdb2
  refine (pe_callB call_isiT hg hm (by decide +kernel) (pa_cons ha (pa_cons (pe_tup (pa_cons pt (pa_cons pt2 pa_nil he4) he3)) pa_nil he2) he) (he := he) (hpl := hpl)).imp fun σ H Q ⟨G, ρ, r0, h⟩ => ?_
  refine tMO_thenE (Q := Q) r0 h fun G1 H1 ρ1 o v e1 r1 ov h1 => ?_
  refine ⟨by show 2 ≤ sizeLine; rw [line_eq]; decide, fun T hT => ?_⟩
  unfold ap1 at h1
  split at h1
  · rename_i d ed
    have rep := ov.look r1 ed
    by_cases fl : flatK d = true
    case neg =>
      simp only [dIsi, fl] at h1
      exact h1.elim
    have h1 : PostE X.K G1 H1 σ ρ1 W Q (.ok (.pl (.bl ([t, t2].any fun t => isTy t d))) ρ1) := by
      simp only [dIsi, fl, if_true] at h1
      exact h1
    have exH : Ex H1 (upd H1 T (.tup [.ty t.n, .ty t2.n])) := fun b u e => by rw [upd_ne (ne_of_none e hT)]; exact e
    have gT : G1 T = none := by
      cases q : G1 T with
      | none => rfl
      | some u => rw [r1.sub T u q] at hT; cases hT
    have ty : TyX X.K (upd H1 T (.tup [.ty t.n, .ty t2.n])) v (.type (tyD d)) := by
      refine tyx_of (G := G1) (d := d) (fun b u e => exH _ _ (r1.sub b u e)) fl ?_
      cases d with
      | ins c fs ds => obtain ⟨a, dx, vs, e, q, l, r⟩ := rep; exact ⟨a, dx, vs, e, exH _ _ q, l, r⟩
      | clo k cl => exact rep
      | tup ds => exact rep
      | ftup ds => obtain ⟨a, vs, e, q, r⟩ := rep; exact ⟨a, vs, e, sqT_mono exH q, r⟩
      | lst ds => obtain ⟨a, vs, e, q, r⟩ := rep; exact ⟨a, vs, e, exH _ _ q, r⟩
      | flst ds => obtain ⟨a, vs, e, q, r⟩ := rep; exact ⟨a, vs, e, sqL_mono exH q, r⟩
      | dic ks ds => obtain ⟨a, vs, e, q, r⟩ := rep; exact ⟨a, vs, e, exH _ _ q, r⟩
      | non => exact rep
      | bl b => exact rep
      | int b => exact rep
      | str b => exact rep
    exact ⟨v, T, [.ty t.n, .ty t2.n], _, [.type t.n, .type t2.n], ([t, t2].any fun t => isTy t d), rfl, upd_same, .cons (.ty _) (.cons (.ty _) .nil), ty, kit_any X.K d [t, t2],
      PostE.done r1 h1 (Go.updL (.inr hT) (no_q hT)) (fun b u e => by rw [upd_ne (ne_of_none e gT)]; exact r1.sub b u e) rfl⟩
  · exact h1.elim
end

/-! ### n.bit_length() -/
def dBits : D → Option RV
  | .int i => pI (Builtin.Int.intBits i : Nat)
  | _ => none
theorem me_bits {X : Cx} {W : WX} {o : Expr} {m : MO} {apos pos : Pos} (ho : MOp X W o m) (hbase : attributeBase o "bit_length" X.env (eval o X.env) = eval o X.env := by rfl) (hline : (apos.endLine == pos.line) = true := by rfl) : ME X W (.Call (.Attribute o "bit_length" apos) [] [] pos) (mUn dBits m) := by
  refine (pe_bits ho hbase hline).imp fun σ H Q ⟨G, ρ, r0, h⟩ => ?_
  refine tMO_thenE (Q := Q) r0 h fun G1 H1 ρ1 o v e1 r1 ov h1 => ?_
  unfold ap1 at h1
  split at h1
  · rename_i d ed
    have rep := ov.look r1 ed
    cases d with
    | int i =>
      obtain rfl : v = .int i := rep
      exact ⟨i, rfl, PostE.done r1 h1 Go.refl r1.sub rfl⟩
    | _ => exact h1.elim
  · exact h1.elim

/-! ### len(set(xs)), the items unlike ints -/
def dLenSet : D → Option RV
  | .lst ds => (intsOf ds).bind fun ns => if ns.Nodup ∧ ns.length ≤ 4000 then pI ns.length else none
  | _ => none
theorem me_lenSet {X : Cx} {W : WX} {a : Expr} {m : MO} {p p2 q pos : Pos} (hc : X.calm = true) (hg : Gl X "len") (hm : X.mg "len" = none) (hg2 : Gl X "set") (hm2 : X.mg "set" = none) (ha : MOp X W a m) (na : starEach [a] X.env = (false, eval a X.env) :: starEach [] X.env := by rfl) :
    ME X W (.Call (.Name "len" p) [.Call (.Name "set" p2) [a] [] q] [] pos) (mUn dLenSet m) := by
  refine (RZ.pe_lenSetI hg hm hg2 hm2 ha hc na).imp fun σ H Q ⟨G, ρ, r0, h⟩ => ?_
  refine tMO_thenE (Q := Q) r0 h fun G1 H1 ρ1 o v e1 r1 ov h1 => ?_
  unfold ap1 at h1
  split at h1
  · rename_i d ed
    have rep := ov.look r1 ed
    cases d with
    | lst ds =>
      obtain ⟨a, vs, rfl, hs, r⟩ := rep
      split at h1
      · rename_i rv e2
        have e2 : ((intsOf ds).bind fun ns => if ns.Nodup ∧ ns.length ≤ 4000 then pI ns.length else none) = some rv := e2
        cases q : intsOf ds with
        | none => rw [q] at e2; cases e2
        | some ns =>
          rw [q] at e2
          have e2 : (if ns.Nodup ∧ ns.length ≤ 4000 then pI ns.length else none) = some rv := e2
          split at e2
          · rename_i hn
            cases e2
            rw [ints_reps q r] at hs
            exact ⟨a, ns, rfl, SqL.of hs, hn.1, hn.2, PostE.done r1 h1 Go.refl r1.sub rfl⟩
          · cases e2
      · exact h1.elim
    | _ => exact h1.elim
  · exact h1.elim

/-! ### sorted -/
section
variable {α : Type} (le : α → α → Bool)
def insB (x : α) : List α → List α
  | [] => [x]
  | y :: ys => if le x y then x :: y :: ys else y :: insB x ys
def sortB : List α → List α
  | [] => []
  | x :: xs => insB le x (sortB xs)
theorem insB_perm (x : α) : ∀ l : List α, (insB le x l).Perm (x :: l)
  | [] => List.Perm.refl _
  | y :: ys => by
    unfold insB
    split
    · exact List.Perm.refl _
    · exact ((insB_perm x ys).cons y).trans (List.Perm.swap x y ys)
theorem sortB_perm : ∀ l : List α, (sortB le l).Perm l
  | [] => List.Perm.refl _
  | x :: xs => (insB_perm le x _).trans ((sortB_perm xs).cons x)
variable {le}
theorem insB_sorted (tot : ∀ a b, le a b = true ∨ le b a = true) (tr : ∀ a b c, le a b = true → le b c = true → le a c = true) (x : α) : ∀ l : List α, l.Pairwise (fun a b => le a b = true) → (insB le x l).Pairwise (fun a b => le a b = true)
  | [], _ => List.pairwise_singleton _ _
  | y :: ys, h => by
    have h' := List.pairwise_cons.mp h
    unfold insB
    split
    · rename_i c
      refine List.pairwise_cons.mpr ⟨fun z hz => ?_, h⟩
      rcases List.mem_cons.mp hz with e | hz
      · rw [e]; exact c
      · exact tr _ _ _ c (h'.1 z hz)
    · rename_i c
      have c2 : le y x = true := (tot x y).resolve_left c
      refine List.pairwise_cons.mpr ⟨fun z hz => ?_, insB_sorted tot tr x ys h'.2⟩
      rcases List.mem_cons.mp ((insB_perm le x ys).mem_iff.mp hz) with e | hz
      · rw [e]; exact c2
      · exact h'.1 z hz
theorem sortB_sorted (tot : ∀ a b, le a b = true ∨ le b a = true) (tr : ∀ a b c, le a b = true → le b c = true → le a c = true) : ∀ l : List α, (sortB le l).Pairwise (fun a b => le a b = true)
  | [] => List.Pairwise.nil
  | x :: xs => insB_sorted tot tr x _ (sortB_sorted tot tr xs)
/-- any sorted order of the same items is ours -/
theorem sortB_uniq (tot : ∀ a b, le a b = true ∨ le b a = true) (tr : ∀ a b c, le a b = true → le b c = true → le a c = true) (anti : ∀ a b, le a b = true → le b a = true → a = b) {l m : List α} (hp : m.Perm l) (hs : m.Pairwise fun a b => le a b = true) : m = sortB le l :=
  List.Perm.eq_of_pairwise (le := fun a b => le a b = true) (fun a b _ _ h1 h2 => anti a b h1 h2) hs (sortB_sorted tot tr l) (hp.trans (sortB_perm le l).symm)
end
def leI (a b : Int) : Bool := decide (a ≤ b)
def leP (p q : Int × Int) : Bool := !SrtO.lexB q p
theorem leP_iff {p q : Int × Int} : leP p q = true ↔ p.1 < q.1 ∨ (p.1 = q.1 ∧ p.2 ≤ q.2) := by
  unfold leP
  cases e : SrtO.lexB q p with
  | true =>
    have := SrtO.lexB_iff.mp e
    constructor
    · intro h; cases h
    · intro h; omega
  | false =>
    have : ¬ (q.1 < p.1 ∨ (q.1 = p.1 ∧ q.2 < p.2)) := fun z => by rw [SrtO.lexB_iff.mpr z] at e; cases e
    constructor
    · intro _; omega
    · intro _; rfl
def pairsOf : List D → Option (List (Int × Int))
  | [] => some []
  | .tup [.int i, .int j] :: ds => (pairsOf ds).map fun ps => (i, j) :: ps
  | _ => none
def pairD (p : Int × Int) : D := .tup [.int p.1, .int p.2]
def dSorted : List D → Option RV
  | [d] => (listOf d).bind fun ds => match intsOf ds with
    | some ns => some (.fr (.lst ((sortB leI ns).map .int)))
    | none => (pairsOf ds).map fun ps => .fr (.lst ((sortB leP ps).map pairD))
  | _ => none
def dMin : List D → Option RV
  | [d] => (itemsOf d).bind fun ds => (intsOf ds).bind fun ns => match ns with
    | n :: ns => pI (ns.foldl (fun a y => if y < a then y else a) n)
    | [] => none
  | _ => none
def dMax : List D → Option RV
  | [d] => (listOf d).bind fun ds => (intsOf ds).bind fun ns => match ns with
    | n :: ns => pI (ns.foldl (fun a y => if a < y then y else a) n)
    | [] => none
  | _ => none
section
variable {K : PySem.W.Frag}
theorem listOf_ok2 {G H : Hp} {d : D} {v : V} {ds : List D} (h : Rep2 K G H d v) (e : listOf d = some ds) : ∃ a vs, v = .ref a ∧ SqL K H a vs ∧ Reps K G ds vs := by
  cases d with
  | lst es =>
    cases e
    obtain ⟨a, vs, rfl, ha, r⟩ := h
    exact ⟨a, vs, rfl, SqL.of ha, r⟩
  | flst es =>
    cases e
    obtain ⟨a, vs, rfl, ha, r⟩ := h
    exact ⟨a, vs, rfl, ha, r⟩
  | _ => cases e
theorem itemsOf_ok2 {G H : Hp} (s : Ex G H) {d : D} {v : V} {ds : List D} (h : Rep2 K G H d v) (e : itemsOf d = some ds) : ∃ a vs, v = .ref a ∧ (SqL K H a vs ∨ SqT K H a vs) ∧ Reps K G ds vs := by
  cases d with
  | lst es => cases e; obtain ⟨a, vs, rfl, ha, r⟩ := h; exact ⟨a, vs, rfl, .inl (SqL.of ha), r⟩
  | flst es => cases e; obtain ⟨a, vs, rfl, ha, r⟩ := h; exact ⟨a, vs, rfl, .inl ha, r⟩
  | tup es => cases e; obtain ⟨a, vs, rfl, ha, r⟩ := h; exact ⟨a, vs, rfl, .inr (SqT.of (s _ _ ha)), r⟩
  | ftup es => cases e; obtain ⟨a, vs, rfl, ha, r⟩ := h; exact ⟨a, vs, rfl, .inr ha, r⟩
  | _ => cases e
def keyP (H : Hp) : V → Int × Int
  | .ref t => (match H t with
    | some (.tup [.int i, .int j]) => (i, j)
    | _ => (0, 0))
  | _ => (0, 0)
theorem pairs_reps {G H : Hp} (s : Ex G H) : ∀ {ds : List D} {vs : List V} {ps : List (Int × Int)}, pairsOf ds = some ps → Reps K G ds vs → vs.map (keyP H) = ps ∧ ∀ x ∈ vs, ∃ t, x = V.ref t ∧ G t = some (.tup [.int (keyP H x).1, .int (keyP H x).2])
  | [], vs, ps, e, h => by
    obtain rfl : vs = [] := h
    cases e; exact ⟨rfl, fun x hx => by cases hx⟩
  | d :: ds, vs, ps, e, h => by
    obtain ⟨v, r, rfl, hv, hr⟩ := h
    unfold pairsOf at e
    split at e
    · cases ‹_ :: _ = []›
    · rename_i i j ds' heq
      cases heq
      obtain ⟨ms, e1, rfl⟩ := Option.map_eq_some_iff.mp e
      obtain ⟨a, ws, rfl, hs, w, ws', rfl, hw, w2, ws2, rfl, hw2, hnil⟩ := hv
      obtain rfl : ws2 = [] := hnil
      obtain rfl : w = .int i := hw
      obtain rfl : w2 = .int j := hw2
      have hk : keyP H (.ref a) = (i, j) := by
        show (match H a with
          | some (.tup [.int i, .int j]) => (i, j)
          | _ => (0, 0)) = (i, j)
        rw [s _ _ hs]
      obtain ⟨h1, h2⟩ := pairs_reps s e1 hr
      refine ⟨by rw [List.map_cons, hk, h1], fun x hx => ?_⟩
      rcases List.mem_cons.mp hx with e | hx
      · rw [e, hk]; exact ⟨a, rfl, hs⟩
      · exact h2 x hx
    · cases e
theorem reps_pairs {G H : Hp} : ∀ {vs : List V}, (∀ x ∈ vs, ∃ t, x = V.ref t ∧ G t = some (.tup [.int (keyP H x).1, .int (keyP H x).2])) → Reps K G ((vs.map (keyP H)).map pairD) vs
  | [], _ => rfl
  | x :: vs, h => by
    obtain ⟨t, e, hs⟩ := h x List.mem_cons_self
    refine ⟨x, vs, rfl, ⟨t, _, e, hs, .int (keyP H x).1, _, rfl, rfl, .int (keyP H x).2, _, rfl, rfl, rfl⟩, reps_pairs fun y hy => h y (List.mem_cons_of_mem _ hy)⟩
theorem s_sorted : CallS K dSorted (fun xs H Q => rSortedI K xs H Q ∨ rSortedPO K xs H Q) := by
  intro G H xs ds rv Q s h e k
  unfold dSorted at e
  split at e
  · rename_i d
    obtain ⟨v, rfl, hv⟩ := reps2_1 h
    cases q : listOf d with
    | none => rw [q] at e; cases e
    | some es =>
      rw [q] at e
      obtain ⟨a, vs, rfl, hs, r⟩ := listOf_ok2 hv q
      have e : (match intsOf es with
        | some ns => some (RV.fr (.lst ((sortB leI ns).map .int)))
        | none => (pairsOf es).map fun ps => .fr (.lst ((sortB leP ps).map pairD))) = some rv := e
      cases qi : intsOf es with
      | some ns =>
        rw [qi] at e; cases e
        rw [ints_reps qi r] at hs
        refine .inl ⟨a, ns, rfl, hs, fun ns' p hp hord hl => ?_⟩
        have : ns' = sortB leI ns := sortB_uniq (fun a b => by unfold leI; simp only [decide_eq_true_eq]; omega) (fun a b c => by unfold leI; simp only [decide_eq_true_eq]; omega) (fun a b => by unfold leI; simp only [decide_eq_true_eq]; omega) hp (hord.imp fun {a b} h => by unfold leI; exact decide_eq_true h)
        rw [this]
        exact new_list s (Reps.ints _) hl k
      | none =>
        rw [qi] at e
        obtain ⟨ps, ep, rfl⟩ := Option.map_eq_some_iff.mp e
        obtain ⟨h1, h2⟩ := pairs_reps s ep r
        refine .inr ⟨a, vs, keyP H, rfl, hs, fun x hx => ?_, fun ys p hord hst hl => ?_⟩
        · obtain ⟨t, e1, e2⟩ := h2 x hx
          exact ⟨t, e1, s _ _ e2⟩
        · have hy : ∀ x ∈ ys, ∃ t, x = V.ref t ∧ G t = some (.tup [.int (keyP H x).1, .int (keyP H x).2]) := fun x hx => h2 x (hst.perm.mem_iff.mp hx)
          have : ys.map (keyP H) = sortB leP ps := by
            rw [← h1]
            refine sortB_uniq (fun a b => ?_) (fun a b c h1 h2 => ?_) (fun a b h1 h2 => ?_) (hst.perm.map _) (List.pairwise_map.mpr (hord.imp fun {a b} h => ?_))
            · rw [leP_iff, leP_iff]; omega
            · rw [leP_iff] at h1 h2 ⊢; omega
            · rw [leP_iff] at h1 h2
              exact Prod.ext (by omega) (by omega)
            · show (!SrtO.lexB (keyP H b) (keyP H a)) = true
              have h : SrtO.lexB (keyP H b) (keyP H a) = false := h
              rw [h]; rfl
          have rr := reps_pairs (K := K) hy
          rw [this] at rr
          exact new_list s rr hl k
  · cases e
/-- the least of a list or a tuple -/
theorem fold_min : ∀ (ns : List Int) (n : Int), (ns.foldl (fun a y => if y < a then y else a) n) ∈ n :: ns ∧ ∀ y ∈ n :: ns, ns.foldl (fun a y => if y < a then y else a) n ≤ y
  | [], n => ⟨List.mem_cons_self, fun y hy => by rw [List.mem_singleton.mp hy]; exact Int.le_refl _⟩
  | m :: ns, n => by
    obtain ⟨h1, h2⟩ := fold_min ns (if m < n then m else n)
    rw [List.foldl_cons]
    refine ⟨?_, fun y hy => ?_⟩
    · rcases List.mem_cons.mp h1 with e | e
      · rw [e]; split
        · exact List.mem_cons_of_mem _ List.mem_cons_self
        · exact List.mem_cons_self
      · exact List.mem_cons_of_mem _ (List.mem_cons_of_mem _ e)
    · have h0 := h2 _ List.mem_cons_self
      generalize List.foldl _ _ ns = z at h0 h2 ⊢
      rcases List.mem_cons.mp hy with e | hy
      · rw [e]; split at h0 <;> omega
      · rcases List.mem_cons.mp hy with e | hy
        · rw [e]; split at h0 <;> omega
        · exact h2 y (List.mem_cons_of_mem _ hy)
theorem fold_max : ∀ (ns : List Int) (n : Int), (ns.foldl (fun a y => if a < y then y else a) n) ∈ n :: ns ∧ ∀ y ∈ n :: ns, y ≤ ns.foldl (fun a y => if a < y then y else a) n
  | [], n => ⟨List.mem_cons_self, fun y hy => by rw [List.mem_singleton.mp hy]; exact Int.le_refl _⟩
  | m :: ns, n => by
    obtain ⟨h1, h2⟩ := fold_max ns (if n < m then m else n)
    rw [List.foldl_cons]
    refine ⟨?_, fun y hy => ?_⟩
    · rcases List.mem_cons.mp h1 with e | e
      · rw [e]; split
        · exact List.mem_cons_of_mem _ List.mem_cons_self
        · exact List.mem_cons_self
      · exact List.mem_cons_of_mem _ (List.mem_cons_of_mem _ e)
    · have h0 := h2 _ List.mem_cons_self
      generalize List.foldl _ _ ns = z at h0 h2 ⊢
      rcases List.mem_cons.mp hy with e | hy
      · rw [e]; split at h0 <;> omega
      · rcases List.mem_cons.mp hy with e | hy
        · rw [e]; split at h0 <;> omega
        · exact h2 y (List.mem_cons_of_mem _ hy)
def rMinT (K : PySem.W.Frag) : List V → Hp → VK → Prop := fun vs H Q => ∃ (a : Addr) (n : Int) (ns : List Int), vs = [V.ref a] ∧ SqT K H a ((n :: ns).map V.int) ∧ Q (.int (ns.foldl (fun a y => if y < a then y else a) n)) H
theorem min_of_fold : ∀ (ns : List Int) (n : Int), PySem.W.minOf n ns = ns.foldl (fun a y => if y < a then y else a) n
  | [], n => rfl
  | m :: ns, n => by
    show PySem.W.minOf (if PySem.W.DatumOrd.lt m n = true then m else n) ns = _
    rw [min_of_fold ns]
    show List.foldl _ (if decide (m < n) = true then m else n) ns = List.foldl _ (if m < n then m else n) ns
    simp only [decide_eq_true_eq]
theorem cr_minT {X : Cx} (hc : X.calm = true) (hu : X.A.units + 64 < PySem.cLine) : CallR X (.builtin "min") (rMinT X.K) := by
  intro pins s σ H vs us Q I r h
  obtain ⟨a, n, ns, rfl, hs, q⟩ := h
  obtain ⟨its, rv, hl, _⟩ := I.tuple hs
  rw [Vals.ref1 r]
  refine PySem.W.min_tuple_datum (α := Int) (x := n) (xs := ns) (I.ok.hd hc) hl (PySem.W.HoldAll.of_ints rv.ints) ?_ fun i v h' tk _ hv hk => ?_
  · show X.A.units + 1 + 0 < _
    omega
  · rw [min_of_fold] at hv
    have : ∃ t, v = .int (ns.foldl (fun a y => if y < a then y else a) n) t := by
      obtain ⟨as, ra⟩ := hv
      cases ra
      exact ⟨_, rfl⟩
    obtain ⟨t, rfl⟩ := this
    exact ⟨.int _, H, I.kept hk, ⟨_, rfl⟩, q⟩
theorem cr_or {X : Cx} {f : Value} {r r' : List V → Hp → VK → Prop} (a : CallR X f r) (b : CallR X f r') : CallR X f (fun xs H Q => r xs H Q ∨ r' xs H Q) := fun pins s σ H vs us Q I rv h => h.elim (a pins s σ H vs us Q I rv) (b pins s σ H vs us Q I rv)
theorem s_min : CallS K dMin (fun xs H Q => rMin K xs H Q ∨ rMinT K xs H Q) := by
  intro G H xs ds rv Q s h e k
  unfold dMin at e
  split at e
  · rename_i d
    obtain ⟨v, rfl, hv⟩ := reps2_1 h
    cases q : itemsOf d with
    | none => rw [q] at e; cases e
    | some es =>
      rw [q] at e
      have e : ((intsOf es).bind fun ns => match ns with
        | n :: ns => pI (ns.foldl (fun a y => if y < a then y else a) n)
        | [] => none) = some rv := e
      obtain ⟨a, vs, rfl, hs, r⟩ := itemsOf_ok2 s hv q
      cases qi : intsOf es with
      | none => rw [qi] at e; cases e
      | some ns =>
        rw [qi] at e
        cases ns with
        | nil => cases e
        | cons n ns =>
          cases e
          rw [ints_reps qi r] at hs
          rcases hs with hs | hs
          · refine .inl ⟨a, n :: ns, rfl, hs, by simp, fun m hm hl => ?_⟩
            obtain ⟨f1, f2⟩ := fold_min ns n
            have : m = ns.foldl (fun a y => if y < a then y else a) n := Int.le_antisymm (hl _ f1) (f2 m hm)
            rw [this]
            exact end_int s k
          · exact .inr ⟨a, n, ns, rfl, hs, end_int s k⟩
  · cases e
theorem s_max : CallS K dMax (rMax K) := by
  intro G H xs ds rv Q s h e k
  unfold dMax at e
  split at e
  · rename_i d
    obtain ⟨v, rfl, hv⟩ := reps2_1 h
    cases q : listOf d with
    | none => rw [q] at e; cases e
    | some es =>
      rw [q] at e
      have e : ((intsOf es).bind fun ns => match ns with
        | n :: ns => pI (ns.foldl (fun a y => if a < y then y else a) n)
        | [] => none) = some rv := e
      obtain ⟨a, vs, rfl, hs, r⟩ := listOf_ok2 hv q
      cases qi : intsOf es with
      | none => rw [qi] at e; cases e
      | some ns =>
        rw [qi] at e
        cases ns with
        | nil => cases e
        | cons n ns =>
          cases e
          rw [ints_reps qi r] at hs
          refine ⟨a, n :: ns, rfl, hs, by simp, fun m hm hl => ?_⟩
          obtain ⟨f1, f2⟩ := fold_max ns n
          have : m = ns.foldl (fun a y => if a < y then y else a) n := Int.le_antisymm (f2 m hm) (hl _ f1)
          rw [this]
          exact end_int s k
  · cases e
end
end L2.MX
end
section
set_option Elab.async false
set_option linter.all false
set_option maxRecDepth 100000
/-! MxI: dict displays; defs as facts. -/
namespace L2.MX
open PySem PySem.Spec PyProof.Rows
variable [tb : TabT]

abbrev MP := Env → ER (List (Key × D))
def PostP (K : PySem.W.Frag) (G H : Hp) (σ : St) (ρ : Env) (W : WX) (Q : List (V × V) → Hp → Prop) : ER (List (Key × D)) → Prop
  | .bad => False
  | .ok ps ρ1 => ∀ vs G1 H1, Go (Own σ ρ) G H G1 H1 → Rel K G1 H1 σ ρ1 → Sub ρ ρ1 → Reps K G1 (ps.map (·.2)) vs → Q (((ps.map (·.1)).map kV).zip vs) H1
  | .ex x ρ1 => ∀ cls d G1 H1, Go (Own σ ρ) G H G1 H1 → Rel K G1 H1 σ ρ1 → Sub ρ ρ1 → XRep K G1 H1 x cls d → W cls d σ H1
def tMP (K : PySem.W.Frag) (W : WX) (m : MP) : St → Hp → (List (V × V) → Hp → Prop) → Prop := fun σ H Q => ∃ G ρ, Rel K G H σ ρ ∧ PostP K G H σ ρ W Q (m ρ)
theorem PostP.after {K : PySem.W.Frag} {G H G1 H1 : Hp} {σ : St} {ρ ρ1 : Env} {W : WX} {Q : List (V × V) → Hp → Prop} (g : Go (Own σ ρ) G H G1 H1) (s : Sub ρ ρ1) {e : ER (List (Key × D))} (h : PostP K G H σ ρ W Q e) : PostP K G1 H1 σ ρ1 W Q e := by
  have go2 : ∀ {G2 H2}, Go (Own σ ρ1) G1 H1 G2 H2 → Go (Own σ ρ) G H G2 H2 := fun g2 => g.trans g2 fun x z => .inl (s.own z)
  cases e with
  | bad => exact h
  | ok r ρ2 => exact fun v G2 H2 g2 r2 s2 => h v G2 H2 (go2 g2) r2 (s.trans s2)
  | ex x ρ2 => exact fun cls d G2 H2 g2 r2 s2 q => h cls d G2 H2 (go2 g2) r2 (s.trans s2) q
theorem tM_thenP' {K : PySem.W.Frag} {G H : Hp} {σ : St} {ρ : Env} {W : WX} {Q : List (V × V) → Hp → Prop} {m : M} {k : RV → Env → ER (List (Key × D))} {R : V → Hp → Prop} (r0 : Rel K G H σ ρ) (h : PostP K G H σ ρ W Q (bindM (m ρ) k))
    (hk : ∀ G1 H1 ρ1 rv v, Ex G G1 → Rel K G1 H1 σ ρ1 → Rep K G1 rv.d v → PostP K G1 H1 σ ρ1 W Q (k rv ρ1) → R v H1) : tM K W m σ H R := by
  refine ⟨G, ρ, r0, ?_⟩
  cases e : m ρ with
  | bad => rw [e] at h; exact h
  | ex x ρ1 => rw [e] at h; exact h
  | ok rv ρ1 =>
    rw [e] at h
    intro v G1 H1 g r s q
    obtain ⟨G2, g2, r2, _, rep⟩ := publish r0 g r s q
    exact hk G2 H1 ρ1 rv v g2.ext r2 rep (PostP.after g2 s h)
def mP0 : MP := fun ρ => .ok [] ρ
def mPc (mk mv : M) (r : MP) : MP := fun ρ => bindM (mk ρ) fun k ρ1 => bindM (mv ρ1) fun v ρ2 => bindM (r ρ2) fun ps ρ3 => match keyOf k.d with
  | some k => .ok ((k, v.d) :: ps) ρ3
  | none => .bad
def MPs (X : Cx) (W : WX) (pos : Pos) (keys : List (Option Expr)) (values : List Expr) (m : MP) : Prop := ∃ trs, PPs X pos keys values trs ∧ ∀ σ H Q, tMP X.K W m σ H Q → tPairs trs σ H Q
def mDict (m : MP) : M := fun ρ => bindM (m ρ) fun ps ρ1 => if (ps.map (·.1)).Nodup ∧ ps.length ≤ 15 then .ok (.fr (.dic (ps.map (·.1)) (ps.map (·.2)))) ρ1 else .bad
section
variable {X : Cx} {W : WX} {pos : Pos}
theorem mps_nil : MPs X W pos [] [] mP0 := ⟨[], pps_nil, fun σ H Q ⟨G, ρ, r, h⟩ => h [] G H Go.refl r (Sub.refl ρ) rfl⟩
theorem mps_cons {k v : Expr} {ks : List (Option Expr)} {vs : List Expr} {mk mv : M} {mr : MP} (hk : ME X W k mk) (hv : ME X W v mv) (hr : MPs X W pos ks vs mr) : MPs X W pos (some k :: ks) (v :: vs) (mPc mk mv mr) := by
  obtain ⟨trs, h1, h2⟩ := hr
  refine ⟨_, pps_cons hk hv h1, fun σ H Q ⟨G, ρ, r0, h⟩ => ?_⟩
  refine tM_thenP' (Q := Q) r0 h fun G1 H1 ρ1 kv x e1 r1 q1 h => ?_
  refine tM_thenP' (Q := Q) r1 h fun G2 H2 ρ2 vv y e2 r2 q2 h => ?_
  refine h2 _ _ _ ⟨G2, ρ2, r2, ?_⟩
  cases e : mr ρ2 with
  | bad => rw [e] at h; exact h
  | ex x ρ3 => rw [e] at h; exact h
  | ok ps ρ3 =>
    rw [e] at h
    intro vs G3 H3 g3 r3 s3 q3
    have h : PostP X.K G2 H2 σ ρ2 W Q (match keyOf kv.d with
      | some k => .ok ((k, vv.d) :: ps) ρ3
      | none => .bad) := h
    cases ek : keyOf kv.d with
    | none => rw [ek] at h; exact h.elim
    | some k =>
      rw [ek] at h
      have hx := key_ok ek q1
      rw [hx]
      exact h (y :: vs) G3 H3 g3 r3 s3 ⟨y, vs, rfl, Rep.mono g3.ext _ q2, q3⟩
theorem zip_kV : ∀ (ks : List Key) (vs : List V), (ks.map kV).zip vs = (ks.zip vs).map fun kv => (kV kv.1, kv.2)
  | [], _ => rfl
  | _ :: _, [] => rfl
  | k :: ks, v :: vs => by
    show (kV k, v) :: (ks.map kV).zip vs = _
    rw [zip_kV ks vs]
    rfl
theorem merge_nodup : ∀ (more acc : List (Key × V)), (acc ++ more).map (·.1) |>.Nodup → mergeK acc more = acc ++ more
  | [], acc, _ => by simp [mergeK]
  | p :: more, acc, h => by
    have np : ¬ (acc.any fun kv => decide (kv.1 = p.1)) = true := fun z => by
      obtain ⟨q, hq, e⟩ := List.any_eq_true.mp z
      rw [List.map_append, List.nodup_append] at h
      exact h.2.2 q.1 (List.mem_map.mpr ⟨q, hq, rfl⟩) p.1 (by simp) (of_decide_eq_true e)
    have e : putK acc p.1 p.2 = acc ++ [p] := by
      unfold putK
      rw [if_neg np]
    show mergeK (putK acc p.1 p.2) more = _
    rw [e, merge_nodup more (acc ++ [p]) (by rw [List.append_assoc]; exact h), List.append_assoc]
    rfl
theorem me_dict {keys : List (Option Expr)} {values : List Expr} {m : MP} (h : MPs X W pos keys values m) (hall : keys.all (·.isSome) = true := by rfl) (hl : keys.length = values.length := by rfl) (h0 : keys ≠ [] := by exact fun z => nomatch z) (h15 : keys.length ≤ 15 := by decide) : ME X W (.Dict keys values pos) (mDict m) := by
  obtain ⟨trs, h1, h2⟩ := h
  refine (pe_disp h1 hall hl h0 h15).imp fun σ H Q ⟨G, ρ, r0, h⟩ => fun p hp => ?_
  have gp : G p = none := by
    cases q : G p with
    | none => rfl
    | some u => rw [r0.sub p u q] at hp; cases hp
  have nown : ¬ Own σ ρ p := fun z => by
    obtain ⟨u, e⟩ := r0.alive z
    rw [hp] at e; cases e
  have r1 : Rel X.K G (upd H p (.dK [])) σ ρ := r0.updL gp nown (no_q hp)
  refine h2 _ _ _ ⟨G, ρ, r1, ?_⟩
  have h : PostE X.K G H σ ρ W Q (bindM (m ρ) fun ps ρ1 => if (ps.map (·.1)).Nodup ∧ ps.length ≤ 15 then .ok (.fr (.dic (ps.map (·.1)) (ps.map (·.2)))) ρ1 else .bad) := h
  have g0 : Go (Own σ ρ) G H G (upd H p (.dK [])) := Go.updL (.inr hp) (no_q hp)
  cases e : m ρ with
  | bad => rw [e] at h; exact h
  | ex x ρ1 =>
    rw [e] at h
    exact fun cls d G1 H1 g r s q => h cls d G1 H1 (g0.trans g fun _ z => .inl z) r s q
  | ok ps ρ1 =>
    rw [e] at h
    intro vs G1 H1 g r s q
    have h : PostE X.K G H σ ρ W Q (if (ps.map (·.1)).Nodup ∧ ps.length ≤ 15 then .ok (.fr (.dic (ps.map (·.1)) (ps.map (·.2)))) ρ1 else .bad) := h
    split at h
    · rename_i hn
      have h1p : H1 p = some (.dK []) := g.keep p _ upd_same nown (ntb_dK _).1
      have g1p : G1 p = none := by
        cases q : G1 p with
        | none => rfl
        | some u =>
          rcases g.new p u q with z | z | z
          · rw [gp] at z; cases z
          · rw [upd_same] at z; cases z
          · exact (nown z).elim
      have nown1 : ¬ Own σ ρ1 p := fun z => nown (s.own z)
      have hlen : (ps.map (·.1)).length = vs.length := by rw [← q.length]; simp
      refine ⟨h1p, (ps.map (·.1)).zip vs, ?_, by rw [List.length_zip, hlen, Nat.min_self, ← hlen]; simpa using hn.2, ?_⟩
      · exact zip_kV _ _
      · have em : mergeK [] ((ps.map (·.1)).zip vs) = (ps.map (·.1)).zip vs := merge_nodup _ [] (by
          show (((ps.map (·.1)).zip vs).map (·.1)).Nodup
          rw [List.map_fst_zip (by omega)]
          exact hn.1)
        rw [em]
        refine h (.ref p) G1 _ ((g0.trans g fun _ z => .inl z).trans (Go.updL (I := fun x => x = p) (.inl rfl) (dK_q h1p)) fun x z => .inr (by rw [z]; exact hp)) (r.updL g1p nown1 (dK_q h1p)) s ⟨p, rfl, hp, g1p, vs, upd_same, hlen, q⟩
    · exact h.elim
end
end L2.MX
end
section
set_option Elab.async false
set_option linter.all false
set_option maxRecDepth 100000
/-! MxR: a def as a fact; what the generator leans on. -/
namespace L2.MX
open PySem PySem.Spec PyProof.Rows
variable [tb : TabT]

/-- the function object that stands at f -/
def Lk (K : PySem.W.Frag) (f : Addr) (fd : FuncData) : Prop := ∃ oc od osl, K.lookup f = some ⟨oc, od, .func fd, osl⟩
theorem Lk.eq {K : PySem.W.Frag} {f : Addr} {fd fd' : FuncData} (h : Lk K f fd) (h' : Lk K f fd') : fd = fd' := by
  obtain ⟨_, _, _, e⟩ := h
  obtain ⟨_, _, _, e'⟩ := h'
  rw [e] at e'
  cases e'; rfl
theorem lk_of {K : PySem.W.Frag} {x qual : Str} {params : Arguments} {body : List Stmt} {scope : Scope} {dvs : List V} {kws : List (Str × V)} {f : Addr} {fd : FuncData} (F : FunD K x qual params body scope dvs kws f fd) : Lk K f fd := by
  obtain ⟨oc, od, dV, kV, doc, pm, an, cdv, ct, osl, rfl, lk, _⟩ := F.ex
  exact ⟨oc, od, osl, lk⟩
structure Fn (P : Program) (w : World) (K : PySem.W.Frag) (mg : Str → Option Value) (base : Heap) (k : Nat) (x : Str) (ps : List Str) (dfl : List D) (fm : MF) : Prop where
  ex : ∃ fd, FnOk P w K mg base (L2.CX P w) k (He.ga K x) fd ps (spM K fm) ∧ Lk K (He.ga K x) fd ∧ ∀ j, j ≤ dfl.length → ∃ ds, Vals ((dfl.drop j).map scV) ds ∧ Binds K fd ps ds
  gm : mg x = some (.ref (He.ga K x))
  kp : PySem.W.keepIn K (.ref (He.ga K x)) = true
section
variable {X : Cx} {W : WX} {e : Expr} {es : List Expr} {ma : MA} {fm : MF} {dfl : List D} {x : Str} {p pos : Pos} {k n : Nat} {ps : List Str}
theorem me_fnP (F : Fn X.prog X.w X.K X.mg X.base k x ps dfl fm) (j : Nat) (hr : Room n X.A) (tk : Takes X W) (ha : MAr X W (e :: es) ma) (hk : k ≤ n := by decide) (hj : j ≤ dfl.length := by decide) (hg : Gl X x := by rfl) (hsc : (dfl.drop j).all scal = true := by rfl)
    (hdb : (x == ("__debug__" : Str)) = false := by decide) (he : starEach (e :: es) X.env = (false, eval e X.env) :: starEach es X.env := by rfl) (hpl : (backTo pos (starEach es X.env)).any (·.1) = false := by rfl) :
    ME X W (.Call (.Name x p) (e :: es) [] pos) (mCallP (dfl.drop j) fm ma) := by
  obtain ⟨fd, F1, _, hb⟩ := F.ex
  obtain ⟨ds, v, b⟩ := hb j hj
  exact me_callP F1 (hr.mono hk) hg F.gm F.kp b v tk ha hsc hdb he hpl
theorem me_fnQ (F : Fn X.prog X.w X.K X.mg X.base k x ps dfl fm) (j : Nat) (hr : Room n X.A) (tk : Takes X W) (ha : MAr X W (e :: es) ma) (hk : k ≤ n := by decide) (hj : j ≤ dfl.length := by decide) (hg : Gl X x := by rfl) (hsc : (dfl.drop j).all scal = true := by rfl)
    (hdb : (x == ("__debug__" : Str)) = false := by decide) (he : starEach (e :: es) X.env = (false, eval e X.env) :: starEach es X.env := by rfl) (hpl : (backTo pos (starEach es X.env)).any (·.1) = false := by rfl) :
    ME X W (.Call (.Name x p) (e :: es) [] pos) (mCallQ (dfl.drop j) fm ma) := by
  obtain ⟨fd, F1, _, hb⟩ := F.ex
  obtain ⟨ds, v, b⟩ := hb j hj
  exact me_callQ F1 (hr.mono hk) hg F.gm F.kp b v tk ha hsc hdb he hpl
end
theorem b_len : bootBuiltins "len" = some (.builtin "len") := by decide +kernel
theorem b_abs : bootBuiltins "abs" = some (.builtin "abs") := by decide +kernel
theorem b_sum : bootBuiltins "sum" = some (.builtin "sum") := by decide +kernel
theorem b_all : bootBuiltins "all" = some (.builtin "all") := by decide +kernel
theorem b_any : bootBuiltins "any" = some (.builtin "any") := by decide +kernel
theorem b_min : bootBuiltins "min" = some (.builtin "min") := by decide +kernel
theorem b_max : bootBuiltins "max" = some (.builtin "max") := by decide +kernel
theorem b_sorted : bootBuiltins "sorted" = some (.builtin "sorted") := by decide +kernel
theorem b_int : bootBuiltins "int" = some (.type "int") := by decide +kernel
theorem b_bool : bootBuiltins "bool" = some (.type "bool") := by decide +kernel
theorem b_str : bootBuiltins "str" = some (.type "str") := by decide +kernel
theorem b_list : bootBuiltins "list" = some (.type "list") := by decide +kernel
theorem b_tuple : bootBuiltins "tuple" = some (.type "tuple") := by decide +kernel
theorem b_dict : bootBuiltins "dict" = some (.type "dict") := by decide +kernel
theorem u64 {k : Nat} {A : Around} (r : Room k A) : A.units + 64 < cLine := by have := r.un; omega
theorem u1 {k : Nat} {A : Around} (r : Room k A) : A.units + 1 < cLine := by have := r.un; omega
section
variable {X : Cx} {W : WX} {e : Expr} {es : List Expr} {ma : MA} {p pos : Pos} {n : Nat}
theorem me_len (hm : X.mg "len" = none) (ha : MAr X W (e :: es) ma) (hg : Gl X "len" := by rfl) (he : starEach (e :: es) X.env = (false, eval e X.env) :: starEach es X.env := by rfl) (hpl : (backTo pos (starEach es X.env)).any (·.1) = false := by rfl) : ME X W (.Call (.Name "len" p) (e :: es) [] pos) (mCall dLen ma) := me_callB call_len s_len hg hm b_len ha (by decide) (by decide) he hpl
theorem me_abs (hm : X.mg "abs" = none) (ha : MAr X W (e :: es) ma) (hg : Gl X "abs" := by rfl) (he : starEach (e :: es) X.env = (false, eval e X.env) :: starEach es X.env := by rfl) (hpl : (backTo pos (starEach es X.env)).any (·.1) = false := by rfl) : ME X W (.Call (.Name "abs" p) (e :: es) [] pos) (mCall dAbs ma) := me_callB call_abs s_abs hg hm b_abs ha (by decide) (by decide) he hpl
theorem me_sum (hc : X.calm = true) (hm : X.mg "sum" = none) (ha : MAr X W (e :: es) ma) (hg : Gl X "sum" := by rfl) (he : starEach (e :: es) X.env = (false, eval e X.env) :: starEach es X.env := by rfl) (hpl : (backTo pos (starEach es X.env)).any (·.1) = false := by rfl) : ME X W (.Call (.Name "sum" p) (e :: es) [] pos) (mCall dSum ma) := me_callB (cr_sum hc) s_sum hg hm b_sum ha (by decide) (by decide) he hpl
theorem me_all (hc : X.calm = true) (hm : X.mg "all" = none) (ha : MAr X W (e :: es) ma) (hg : Gl X "all" := by rfl) (he : starEach (e :: es) X.env = (false, eval e X.env) :: starEach es X.env := by rfl) (hpl : (backTo pos (starEach es X.env)).any (·.1) = false := by rfl) : ME X W (.Call (.Name "all" p) (e :: es) [] pos) (mCall dAll ma) := me_callB (cr_all hc) s_all hg hm b_all ha (by decide) (by decide) he hpl
theorem me_any (hc : X.calm = true) (hm : X.mg "any" = none) (ha : MAr X W (e :: es) ma) (hg : Gl X "any" := by rfl) (he : starEach (e :: es) X.env = (false, eval e X.env) :: starEach es X.env := by rfl) (hpl : (backTo pos (starEach es X.env)).any (·.1) = false := by rfl) : ME X W (.Call (.Name "any" p) (e :: es) [] pos) (mCall dAny ma) := me_callB (cr_any hc) s_any hg hm b_any ha (by decide) (by decide) he hpl
theorem me_sorted (hm : X.mg "sorted" = none) (ha : MAr X W (e :: es) ma) (hg : Gl X "sorted" := by rfl) (he : starEach (e :: es) X.env = (false, eval e X.env) :: starEach es X.env := by rfl) (hpl : (backTo pos (starEach es X.env)).any (·.1) = false := by rfl) : ME X W (.Call (.Name "sorted" p) (e :: es) [] pos) (mCall dSorted ma) := me_callB (cr_or cr_sortedI cr_sortedPO) s_sorted hg hm b_sorted ha (by decide) (by decide) he hpl
theorem me_min (hc : X.calm = true) (hr : Room n X.A) (hm : X.mg "min" = none) (ha : MAr X W (e :: es) ma) (hg : Gl X "min" := by rfl) (he : starEach (e :: es) X.env = (false, eval e X.env) :: starEach es X.env := by rfl) (hpl : (backTo pos (starEach es X.env)).any (·.1) = false := by rfl) : ME X W (.Call (.Name "min" p) (e :: es) [] pos) (mCall dMin ma) := me_callB (cr_or (cr_min hc) (cr_minT hc (u64 hr))) s_min hg hm b_min ha (by decide) (by decide) he hpl
theorem me_max (hc : X.calm = true) (hm : X.mg "max" = none) (ha : MAr X W (e :: es) ma) (hg : Gl X "max" := by rfl) (he : starEach (e :: es) X.env = (false, eval e X.env) :: starEach es X.env := by rfl) (hpl : (backTo pos (starEach es X.env)).any (·.1) = false := by rfl) : ME X W (.Call (.Name "max" p) (e :: es) [] pos) (mCall dMax ma) := me_callB (cr_max hc) s_max hg hm b_max ha (by decide) (by decide) he hpl
theorem me_toInt (hm : X.mg "int" = none) (ha : MAr X W (e :: es) ma) (hg : Gl X "int" := by rfl) (he : starEach (e :: es) X.env = (false, eval e X.env) :: starEach es X.env := by rfl) (hpl : (backTo pos (starEach es X.env)).any (·.1) = false := by rfl) : ME X W (.Call (.Name "int" p) (e :: es) [] pos) (mCall dInt ma) := me_callTy call_int1 s_int hg hm b_int ha (by decide) (by decide) he hpl
theorem me_toList (hm : X.mg "list" = none) (ha : MAr X W (e :: es) ma) (hg : Gl X "list" := by rfl) (he : starEach (e :: es) X.env = (false, eval e X.env) :: starEach es X.env := by rfl) (hpl : (backTo pos (starEach es X.env)).any (·.1) = false := by rfl) : ME X W (.Call (.Name "list" p) (e :: es) [] pos) (mCall dList ma) := me_callTy call_list_of s_list hg hm b_list ha (by decide) (by decide) he hpl
theorem me_toTuple (hm : X.mg "tuple" = none) (ha : MAr X W (e :: es) ma) (hg : Gl X "tuple" := by rfl) (he : starEach (e :: es) X.env = (false, eval e X.env) :: starEach es X.env := by rfl) (hpl : (backTo pos (starEach es X.env)).any (·.1) = false := by rfl) : ME X W (.Call (.Name "tuple" p) (e :: es) [] pos) (mCall dTuple ma) := me_callTy call_tuple_of s_tuple hg hm b_tuple ha (by decide) (by decide) he hpl
end
/-- name += e, x[i] += e: ints, texts -/
def dIAdd : Fn2
  | .int i, .int j => pI (i + j)
  | .str a, .str b => if a.length + b.length ≤ lineN then some (.pl (.str (a ++ b))) else none
  | _, _ => none
abbrev rIAdd : R2 := fun x y H Q => rI0 (fun i j => .int (i + j)) x y H Q ∨ (∃ i j, x = .str i ∧ y = .str j ∧ i.length + j.length ≤ sizeLine ∧ Q (.str (i ++ j)) H)
theorem iop_iadd {X : Cx} : OpR X (inplaceOp .Add) rIAdd := iop_add.or iop_add_str
theorem s_iadd {K : PySem.W.Frag} : OpS K dIAdd rIAdd := by
  intro G H x y d1 d2 rv Q s h1 h2 e k
  unfold dIAdd at e
  split at e
  · cases e
    exact .inl ⟨_, _, h1, h2, end_int s k⟩
  · split at e
    · rename_i hl
      cases e
      exact .inr ⟨_, _, h1, h2, by rw [line_eq]; exact hl, end_str s k⟩
    · cases e
  · cases e
def dIMul : Fn2
  | .int i, .int j => if smallI i || smallI j then pI (i * j) else none
  | _, _ => none
end L2.MX
end
section
set_option Elab.async false
set_option linter.all false
set_option maxRecDepth 100000
/-! MxJ: defs that want to know that no guard is under way (repr of tuples and lists). -/
namespace L2.MX
open PySem PySem.Spec PyProof.Rows
variable [tb : TabT]
structure FnG (P : Program) (w : World) (K : PySem.W.Frag) (mg : Str → Option Value) (base : Heap) (CX : CXT) (k : Nat) (f : Addr) (fd : FuncData) (ps : List Str) (sp : Sp) : Prop where
  len : ∀ vs H Q E, sp vs H Q E → vs.length = ps.length
  run : ∀ (A : Around) (outer : List PySem.Env) (s : Shared) (H : Hp) (args : Args) (us : List Value) (vs : List V) (Q : VK) (E : XK), Room k A → A.guards = some [] → Env0 P w K mg base A outer s H → BindsTo s fd args (ps.zip us) → Vals vs us → sp vs H Q E →
    codeAny (model P w) A (.call (.ref f) args) (CR CX outer P w H s Q E) s
theorem FnG.of {P : Program} {w : World} {K : PySem.W.Frag} {mg : Str → Option Value} {base : Heap} {CX : CXT} {k : Nat} {f : Addr} {fd : FuncData} {ps : List Str} {sp : Sp} (F : FnOk P w K mg base CX k f fd ps sp) : FnG P w K mg base CX k f fd ps sp :=
  ⟨F.len, fun A o s H a us vs Q E hr _ e b v h => F.run A o s H a us vs Q E hr e b v h⟩
theorem deeper_g {A : Around} {e : PySem.Env} (h : A.guards = some []) : (A.deeper e).guards = some [] := h
section
variable {P : Program} {w : World} {K : PySem.W.Frag} {mg : Str → Option Value} {base : Heap}
theorem def_okG {x : Str} {params : Arguments} {body : List Stmt} {scope : Scope} {dvs : List V} {kws : List (Str × V)} {fd : FuncData} {N ps : List Str} {k n : Nat} (l : Nat) {m : MS} (F : FunD K x x params body scope dvs kws (He.ga K x) fd) (S : FnScope N ps scope) (hn : ps.length = n) (hN : N.length = n + l)
    (hbody : ∀ (A : Around) (outer : List PySem.Env) (s : Shared) (H : Hp) (E : XK), Room k (A.deeper (envOfC x scope s.heap.objs.size (He.ga K x) (.ref (He.codeOf K (x, none))))) → A.guards = some [] →
      MSs (cxOf (L2.CX P w) P w K mg base N x scope (He.ga K x) (.ref (He.codeOf K (x, none))) A outer s H E) (fun cls d _ H => E cls d H) body m) :
    FnG P w K mg base (L2.CX P w) (k + 1) (He.ga K x) fd ps (spM K (mDef n l m)) := by
  have hlen : ∀ vs H Q E, spM K (mDef n l m) vs H Q E → vs.length = ps.length := fun vs H Q E ⟨G, ρ, r, h⟩ => by
    unfold mDef at h
    split at h
    · rename_i hρ
      rw [hn, ← hρ, ← r.len]; simp
    · exact h.elim
  obtain ⟨oc, od, dV, kV, doc, pm, an, cdv, ct, osl, rfl, lk, hcd, _, _⟩ := F.ex
  obtain ⟨c, rfl⟩ := He.codeIn_ref hcd
  have ec : He.codeOf K (x, none) = c := He.codeOf_eq lk rfl
  subst ec
  exact ⟨hlen, fun A outer s H args us vs Q E hr hg e0 hb r h => LamX.run_ofS lk hcd S hr e0 hb r (hlen vs H Q E h) fun hr' => ⟨_, hbody A outer s H E hr' hg, pure_def hN h⟩⟩
end
section
variable {X : Cx} {CX : CXT} {k : Nat} {f : Addr} {fd : FuncData} {ps : List Str} {sp : Sp} {dvs : List V} {ds : List Value} {E : St → XK} {x : Str} {p pos : Pos} {e : Expr} {es : List Expr} {t : TA}
theorem pe_callG (F : FnG X.prog X.w X.K X.mg X.base CX k f fd ps sp) (hr : Room k X.A) (hgd : X.A.guards = some []) (hg : Gl X x) (hm : X.mg x = some (.ref f)) (hk : PySem.W.keepIn X.K (.ref f) = true) (hb : Binds X.K fd ps ds) (hd : Vals dvs ds) (hx : ∀ σ, PassesAt CX X σ (E σ))
    (ha : PA X (e :: es) t) (hdb : (x == ("__debug__" : Str)) = false := by decide) (he : starEach (e :: es) X.env = (false, eval e X.env) :: starEach es X.env := by rfl) (hpl : (backTo pos (starEach es X.env)).any (·.1) = false := by rfl) :
    PE X (.Call (.Name x p) (e :: es) [] pos) (tCallSD sp dvs E t) := by
  constructor
  intro pn s0 σ H0 Q I0 hq
  refine wpAny_Call_Name_kw (ld_glob I0 hg hm ?_ hdb)
  refine PySem.W.callWith_K (h₀ := X.base) I0.ok.mod.kin hk (thn (ha.run pos pn s0 σ H0 _ I0 hq) ?_) he hpl
  rintro us s ⟨vs, H, I, r, h⟩
  refine ⟨I.kIn, ?_⟩
  have rr := r.append hd
  have hlen : (us ++ ds).length = ps.length := rr.length.symm.trans (F.len _ _ _ _ h)
  have run := F.run X.A X.stack s H ⟨us, []⟩ (us ++ ds) (vs ++ dvs) Q (E σ) hr hgd I.env0 (hb s us I.kIn hlen) rr h
  refine wpAny_call (codeAny_mono run ?_)
  rintro (er | fl) s' hc
  · exact hx σ pn H s er s' I hc
  · cases fl with
    | ret u => exact I.after hc
    | _ => exact (show False from hc).elim
end
structure FnGd (P : Program) (w : World) (K : PySem.W.Frag) (mg : Str → Option Value) (base : Heap) (k : Nat) (x : Str) (ps : List Str) (dfl : List D) (fm : MF) : Prop where
  ex : ∃ fd, FnG P w K mg base (L2.CX P w) k (He.ga K x) fd ps (spM K fm) ∧ Lk K (He.ga K x) fd ∧ ∀ j, j ≤ dfl.length → ∃ ds, Vals ((dfl.drop j).map scV) ds ∧ Binds K fd ps ds
  gm : mg x = some (.ref (He.ga K x))
  kp : PySem.W.keepIn K (.ref (He.ga K x)) = true
section
variable {X : Cx} {W : WX} {e : Expr} {es : List Expr} {ma : MA} {fm : MF} {dfl : List D} {x : Str} {p pos : Pos} {k n : Nat} {ps : List Str}
theorem me_gnP (F : FnGd X.prog X.w X.K X.mg X.base k x ps dfl fm) (j : Nat) (hr : Room n X.A) (hgd : X.A.guards = some []) (tk : Takes X W) (ha : MAr X W (e :: es) ma) (hk : k ≤ n := by decide) (hj : j ≤ dfl.length := by decide) (hg : Gl X x := by rfl) (hsc : (dfl.drop j).all scal = true := by rfl)
    (hdb : (x == ("__debug__" : Str)) = false := by decide) (he : starEach (e :: es) X.env = (false, eval e X.env) :: starEach es X.env := by rfl) (hpl : (backTo pos (starEach es X.env)).any (·.1) = false := by rfl) :
    ME X W (.Call (.Name x p) (e :: es) [] pos) (mCallP (dfl.drop j) fm ma) := by
  obtain ⟨fd, F1, _, hb⟩ := F.ex
  obtain ⟨ds, v, b⟩ := hb j hj
  exact (pe_callG F1 (hr.mono hk) hgd hg F.gm F.kp b v (fun σ => passAt tk σ) ha hdb he hpl).imp fun _ _ _ h => callP_then hsc h
theorem me_gnQ (F : FnGd X.prog X.w X.K X.mg X.base k x ps dfl fm) (j : Nat) (hr : Room n X.A) (hgd : X.A.guards = some []) (tk : Takes X W) (ha : MAr X W (e :: es) ma) (hk : k ≤ n := by decide) (hj : j ≤ dfl.length := by decide) (hg : Gl X x := by rfl) (hsc : (dfl.drop j).all scal = true := by rfl)
    (hdb : (x == ("__debug__" : Str)) = false := by decide) (he : starEach (e :: es) X.env = (false, eval e X.env) :: starEach es X.env := by rfl) (hpl : (backTo pos (starEach es X.env)).any (·.1) = false := by rfl) :
    ME X W (.Call (.Name x p) (e :: es) [] pos) (mCallQ (dfl.drop j) fm ma) := by
  obtain ⟨fd, F1, _, hb⟩ := F.ex
  obtain ⟨ds, v, b⟩ := hb j hj
  exact (pe_callG F1 (hr.mono hk) hgd hg F.gm F.kp b v (fun σ => passAt tk σ) ha hdb he hpl).imp fun _ _ _ h => callQ_then hsc h
end
end L2.MX
end
section
set_option Elab.async false
set_option linter.all false
set_option maxRecDepth 100000
/-! MxX: several except clauses, with names or without. -/
namespace L2.MX
open PySem PySem.Spec PyProof.Rows
abbrev Suit : Type := Addr → Value → Option Addr → TS
/-- behind the suite the name in slot i is gone -/
def goneE (i : Nat) (D : Ends) : Ends := { nx := fun τ J => D.nx (τ.set i none) J, rt := D.rt, bk := fun τ J => D.bk (τ.set i none) J, ct := fun τ J => D.ct (τ.set i none) J }
def wMA (K : PySem.W.Frag) (Wo : WX) (D : Ends) : List (Value × Option Nat × Suit) → WX
  | [] => Wo
  | (c, none, ts) :: r => fun cl dd τ J => ∃ b, PySem.W.exmOne K cl c = some b ∧ (b = true → ∀ e, J e = none → ts e cl dd D τ J) ∧ (b = false → wMA K Wo D r cl dd τ J)
  | (c, some i, ts) :: r => fun cl dd τ J => ∃ b, PySem.W.exmOne K cl c = some b ∧ (b = true → ∀ e, J e = none → ts e cl dd (goneE i D) (τ.set i (some (.ref e))) J) ∧ (b = false → wMA K Wo D r cl dd τ J)
/-- what is asked of a clause's suite -/
def SuitOk (X : Cx) (sts : List Stmt) (ts : Suit) : Prop := ∀ (e : Addr) (oe : Obj) (cl : Value) (dd : Option Addr) (pn : List (Addr × Obj)), Zc cl dd oe → (∃ vs, oe.data = .fields vs) → PSs (X.suite e ((e, oe) :: pn)) sts (ts e cl dd)
inductive HdsAs (X : Cx) : List ExceptHandler → List (Value × Option Nat × Suit) → Prop
  | nil : HdsAs X [] []
  | only {x : Str} {c : Value} {ts : Suit} {st : Stmt} {sts : List Stmt} {np hp : Pos} {hs : List ExceptHandler} {l : List (Value × Option Nat × Suit)} (nm : Names X x c) (su : SuitOk X (st :: sts) ts) (r : HdsAs X hs l) :
      HdsAs X (.ExceptHandler (some (.Name x np)) none (st :: sts) hp :: hs) ((c, none, ts) :: l)
  | as {x n : Str} {i : Nat} {c : Value} {ts : Suit} {st : Stmt} {sts : List Stmt} {np hp : Pos} {hs : List ExceptHandler} {l : List (Value × Option Nat × Suit)} (nm : Names X x c) (hi : X.N[i]? = some n) (hk : X.env.kindOf n = some .local) (su : SuitOk X (st :: sts) ts) (r : HdsAs X hs l) :
      HdsAs X (.ExceptHandler (some (.Name x np)) (some n) (st :: sts) hp :: hs) ((c, some i, ts) :: l)
section
variable {X : Cx} {body : List Stmt} {h0 : ExceptHandler} {hs : List ExceptHandler} {l : List (Value × Option Nat × Suit)} {pos : Pos} {tb : WX → TS} {Wo : WX}
theorem ps_try_ma (hst : X.stack = X.env :: X.outer) (hfr0 : X.env.frame = some X.env.locals) (hND : X.N.Nodup) (tk : Takes X Wo)
    (hb : ∀ (V : WX) (pn : List (Addr × Obj)) (xe : Value → Shared → Prop), Takes (X.tr pn xe) V → PassesOwn (model X.prog X.w) X.A X.env xe → PSs (X.tr pn xe) body (tb V))
    (hh : HdsAs X (h0 :: hs) l) : PS X (.Try body (h0 :: hs) [] [] pos) (fun D σ H => tb (wMA X.K Wo D l) D σ H) := by
  constructor
  intro pins s σ H D I hq
  have okX := I.ok
  have fr : X.A.frames = some (X.env :: X.outer) := okX.frames.trans (by rw [hst])
  refine wpAny_Try_except ?_
  let XE0 : Value → Shared → Prop := fun e s₁ => wpAny (model X.prog X.w) X.A (noteFrame e X.env) (fun _ s₂ => wpAny (model X.prog X.w) X.A (setFlight e none) (fun _ s₃ =>
    wpAny (model X.prog X.w) X.A (handleBy e X.env (h0 :: hs)) (SP X pins D) X.xe s₃) X.xe s₂) X.xe s₁
  refine wpAny_mono ((hb (wMA X.K Wo D l) (X.pn ++ pins) XE0 ?caught PassesOwn.looking).run [] s σ H D (I.toTry _) hq) (fun f s1 sp => ?dn) (fun e s1 z => z)
  case dn =>
    cases f with
    | next =>
      obtain ⟨τ, J, K1, q⟩ := sp
      exact wpAny_execs_nil ⟨τ, J, K1.ofTry okX, q⟩
    | brk =>
      obtain ⟨τ, J, K1, q⟩ := sp
      exact ⟨τ, J, K1.ofTry okX, q⟩
    | cont =>
      obtain ⟨τ, J, K1, q⟩ := sp
      exact ⟨τ, J, K1.ofTry okX, q⟩
    | ret u =>
      obtain ⟨v, τ, J, K1, r, q⟩ := sp
      exact ⟨v, τ, J, K1.ofTry okX, r, q⟩
  case caught =>
    intro u s9 xx
    obtain ⟨e, B, sI, pins9, τ, J, cl, dd, rfl, J9, nb, up, sky, ne, eos, ag, w⟩ := xx
    have JJ : Inv X pins τ J sI := J9.ofTry okX
    have sky2 : Sky B (X.env :: X.outer) e (Zc cl dd) X.env.locals s9.heap := hst ▸ sky
    show wpAny (model X.prog X.w) X.A (noteFrame (.ref e) X.env) _ _ _
    refine Sky.land Zc.steady fr hfr0 sky2 fun g3 f3 u3 => ?_
    have K3 : Inv X pins τ J { s9 with heap := g3 } := JJ.landed nb f3.1 (up.trans u3) eos ag
    obtain ⟨o3, v3, e3, z3, d3⟩ := f3.there
    have outF : e ∉ frs (X.env :: X.outer) := fun hm => by
      obtain ⟨_, o', e', hn⟩ := f3.2.2.1.mem hm
      rw [e3] at e'; cases e'
      exact hn _ d3
    have nL : e ≠ X.env.locals := fun z => outF (List.mem_filterMap.mpr ⟨X.env, List.mem_cons_self, hfr0.trans (by rw [z])⟩)
    have nF : e ∉ X.fs := fun hm => by
      obtain ⟨v, hv, q⟩ := List.mem_filterMap.mp hm
      exact outF (List.mem_filterMap.mpr ⟨v, List.mem_cons_of_mem _ hv, q⟩)
    have S3 := K3.suite e3 d3 ne nL nF
    have LT : PySem.W.Looks (model X.prog X.w) g3 (typeOf (.ref e)) cl := fun A Q E s k q => wpAny_typeOf_ref (k _ _ e3) (z3.1.symm ▸ q)
    -- a clause's class, looked at
    have look : ∀ {x : Str} {c : Value} {np : Pos} {Q : Value → Shared → Prop} {E : Value → Shared → Prop}, Names X x c → Q c { s9 with heap := g3 } → wpAny (model X.prog X.w) (X.A.mark (some (.ref e))) (eval (.Name x np) X.env) Q E { s9 with heap := g3 } := fun {x c np Q E} nm q => by
      obtain ⟨hg, hdb, hm | ⟨hm, hv, hn⟩⟩ := nm
      · exact ld_glob (X := X.suite e ((e, o3) :: (X.pn ++ pins))) S3 hg hm q hdb
      · exact ld_blt (X := X.suite e ((e, o3) :: (X.pn ++ pins))) S3 hg hm hv q hn hdb
    have go : ∀ {hs2 : List ExceptHandler} {l2 : List (Value × Option Nat × Suit)}, HdsAs X hs2 l2 → wMA X.K Wo D l2 cl dd τ J →
        wpAny (model X.prog X.w) X.A (handleBy (.ref e) X.env hs2) (SP X pins D) X.xe { s9 with heap := g3 } := by
      intro hs2 l2 hk
      induction hk with
      | nil =>
        intro w
        refine wpAny_handleBy_nil ?_
        obtain ⟨_, _, _, oe, vs, T, _, _, he, _, hd, h1, _⟩ := id f3
        unfold PySem.passOn
        refine wpAny_bind (wpAny_field he hd h1 ?_)
        rw [if_neg (show ¬ ((Value.ref T == Value.none) = true) from by simp)]
        have fin : wpAny (model X.prog X.w) X.A (setFlight (.ref e) X.env.frame) (fun _ s4 => wpAny (model X.prog X.w) X.A (throw (.ref e) : Sem Flow) (SP X pins D) X.xe s4) X.xe { s9 with heap := g3 } := by
          rw [hfr0]
          refine HandSPX.setFlight_upZ f3 fun h4 hh4 up4 => wpAny_throw (tk _ _ ?_)
          exact ⟨e, B, sI, pins, τ, J, cl, dd, rfl, JJ, nb, (up.trans u3).trans up4, .inr (.inr (hst ▸ hh4)), ne, eos, ag, w⟩
        first
          | exact wpAny_bind (wpAny_pure (wpAny_bind fin))
          | exact wpAny_bind fin
      | @only x c ts st sts np hp hs3 l3 nm su r ih =>
        intro w
        obtain ⟨b, hb1, yes, no⟩ := w
        refine wpAny_handleBy_cons (codeAny_handlers_test ?_) (by intro q; cases q)
        have LM := PySem.W.exm_one (M := model X.prog X.w) (K3.kIn) LT hb1
        refine look nm (LM.here ?_)
        cases b with
        | false =>
          show wpAny _ X.A (handleBy (.ref e) X.env hs3) _ _ _
          exact ih (no rfl)
        | true =>
          refine codeAny_handlers_suite ?_
          refine HandSPX.lands_againZ f3 fun g4 f4 u4 => ?_
          have K4 : Inv X pins τ J { s9 with heap := g4 } := JJ.landed nb f4.1 ((up.trans u3).trans u4) eos ag
          obtain ⟨o4, v4, e4, z4, d4⟩ := f4.there
          have S4 := K4.suite e4 d4 ne nL nF
          refine wpAny_mono ((su e o4 cl dd (X.pn ++ pins) z4 ⟨_, d4⟩).run [] _ _ J _ S4 (yes rfl e ne)) (fun f s6 sp => ?_) (fun _ _ z => False.elim z)
          cases f with
          | next =>
            obtain ⟨τ6, J6, S6, q6⟩ := sp
            exact ⟨_, _, S6.unsuite okX, q6⟩
          | brk =>
            obtain ⟨τ6, J6, S6, q6⟩ := sp
            exact ⟨_, _, S6.unsuite okX, q6⟩
          | cont =>
            obtain ⟨τ6, J6, S6, q6⟩ := sp
            exact ⟨_, _, S6.unsuite okX, q6⟩
          | ret u =>
            obtain ⟨v6, τ6, J6, S6, r6, q6⟩ := sp
            exact ⟨_, _, _, S6.unsuite okX, r6, q6⟩
      | @as x n i c ts st sts np hp hs3 l3 nm hi hkd su r ih =>
        intro w
        obtain ⟨b, hb1, yes, no⟩ := w
        refine wpAny_handleBy_cons (codeAny_handlers_test ?_) (by intro q; cases q)
        have LM := PySem.W.exm_one (M := model X.prog X.w) (K3.kIn) LT hb1
        refine look nm (LM.here ?_)
        cases b with
        | false =>
          show wpAny _ X.A (handleBy (.ref e) X.env hs3) _ _ _
          exact ih (no rfl)
        | true =>
          refine codeAny_handlers_suite_as ?_
          refine HandSPX.lands_againZ f3 fun g4 f4 u4 => ?_
          have K4 : Inv X pins τ J { s9 with heap := g4 } := JJ.landed nb f4.1 ((up.trans u3).trans u4) eos ag
          obtain ⟨o4, v4, e4, z4, d4⟩ := f4.there
          have S4 := K4.suite e4 d4 ne nL nF
          refine store_ok (X := X.suite e ((e, o4) :: (X.pn ++ pins))) (v := .ref e) S4 hND hi (.inl hkd) rfl (fun s5 S5 => ?_) (.inr hkd)
          refine wpAny_mono ((su e o4 cl dd (X.pn ++ pins) z4 ⟨_, d4⟩).run [] s5 _ J _ S5 (yes rfl e ne)) (fun f s6 sp => ?_) (fun _ _ z => False.elim z)
          have fin : ∀ {τ6 : St} {J6 : Hp} {Q : Shared → Prop}, Inv (X.suite e ((e, o4) :: (X.pn ++ pins))) [] τ6 J6 s6 → (∀ s7, Inv X pins (τ6.set i none) J6 s7 → Q s7) →
              wpAny (model X.prog X.w) X.A (do bindName X.env n .none; unbindBehindTheSuite X.env n hp) (fun _ s7 => Q s7) X.xe s6 := fun {τ6 J6 Q} S6 hq => gone_ok (S6.unsuite okX) hND hi hkd hq
          cases f with
          | next =>
            obtain ⟨τ6, J6, S6, q6⟩ := sp
            exact fin S6 fun s7 J7 => ⟨_, _, J7, q6⟩
          | brk =>
            obtain ⟨τ6, J6, S6, q6⟩ := sp
            exact fin S6 fun s7 J7 => ⟨_, _, J7, q6⟩
          | cont =>
            obtain ⟨τ6, J6, S6, q6⟩ := sp
            exact fin S6 fun s7 J7 => ⟨_, _, J7, q6⟩
          | ret u =>
            obtain ⟨v6, τ6, J6, S6, r6, q6⟩ := sp
            exact fin S6 fun s7 J7 => ⟨_, _, _, J7, r6, q6⟩
    exact go hh w
end
end L2.MX
end
section
set_option Elab.async false
set_option linter.all false
set_option maxRecDepth 100000
set_option maxHeartbeats 1000000
/-! MxQ: own exceptions whose __init__ says super().__init__(a, b) and self.a = a, self.b = b. -/
namespace L2.MX
open PySem PySem.Spec PyProof.Rows PySem.W PySem.Calls
open PySem.HandSPX (excO refsVE)
/-! ### the text -/
inductive NamesE : List Str → List Expr → Prop
  | nil : NamesE [] []
  | cons {x : Str} {p : Pos} {xs : List Str} {es : List Expr} (h : (x == ("__debug__" : Str)) = false) (r : NamesE xs es) : NamesE (x :: xs) (.Name x p :: es)
inductive Stores (self : Str) : List Str → List Stmt → Prop
  | nil : Stores self [] []
  | cons {f : Str} {p1 p2 p3 p4 : Pos} {fs : List Str} {sts : List Stmt} (r : Stores self fs sts) : Stores self (f :: fs) (.Assign [.Attribute (.Name self p1) f p2] (.Name f p3) p4 :: sts)
section
variable {prog : Program} {w : World} {A : Around} {E : Value → Shared → Prop} {h : Heap} {g : Array GenState} {d : Drawn} {t : Nat} {os : OsState}
variable {nm q : Str} {C N : Addr} {bs bm : List Value} {hdct : Bool} {sn : List Str} {sub : List Value} {ab : Bool} {col : Option Bool} {dd : Option Addr} {k0 k1 k2 k3 k5 : Option Value}
/-- ValueError.__init__ bound to the exception at x, called -/
theorem mw_call {u x t0 : Addr} {rest : List Value} {Q : Value → Shared → Prop} (hC : h.get? C = some (excClassObj nm q C N bs bm hdct sn sub ab col dd k0 k1 k2 k3 k5 "ValueError.__new__")) (he : h.get? x = some (excO C t0))
    (hu : h.get? u = some (kxs_mw "ValueError.__init__" x)) (hz : rest.length ≤ sizeLine) (hq : ∀ h' t1, (∀ b o, b ≠ x → h.get? b = some o → h'.get? b = some o) → h'.get? x = some (excO C t1) → Q .none ⟨h', g, d, t, os⟩) :
    wpAny (model prog w) A (call (.ref u) rest) Q E ⟨h, g, d, t, os⟩ := by
  refine wpAny_call (codeAny_of_tree ?_)
  show wpAny _ A.in1 (callAny (.ref u) ⟨rest, []⟩) _ _ _
  simp only [callAny]
  refine wpAny_bind (wpAny_load hu ?_)
  simp only [kxs_mw, show (Value.type "method-wrapper" == Value.type "method" || Value.type "method-wrapper" == Value.type "builtin_function_or_method" || Value.type "method-wrapper" == Value.type "method-wrapper") = true by decide, if_true]
  refine KFB.if_so (by decide) ?_
  refine wpAny_bind (check_bound_init F.excBase_ValueError.toExcCallFacts hC he rfl ?_)
  refine wpAny_bind (wpAny_pure (wpAny_pure ⟨plainId_quiet F.excBase_ValueError.init.plain _, codeAny_builtin F.excBase_ValueError.initEntry ?_⟩))
  exact exc_init_tree (cls := .ref C) (t0 := t0) (dv := none) (c2 := .none) (c3 := .none) (b4 := .bool false) he hz fun h' k e' _ => hq h' _ k e'
end
/-! ### names read in the __init__'s frame -/
section
variable {M : Model} {A : Around} {E : Value → Shared → Prop} {s : Shared} {env : PySem.Env}
theorem names_spliced {m : Str → Option Value} {pos : Pos} (hk : env.scope.kind = .function) : ∀ {xs : List Str} {es : List Expr} {us : List Value} {Q : List Value → Shared → Prop}, NamesE xs es → (∀ x ∈ xs, env.kindOf x = some .local) → us.length = xs.length → (∀ p ∈ xs.zip us, m p.1 = some p.2) →
    s.heap.Ns env.locals m → Q us s → wpAny M A (spliced (backTo pos (starEach es env))) Q E s
  | _, _, us, Q, .nil, _, hl, _, _, h => by
    cases us with
    | nil => exact spliced_nil h
    | cons _ _ => cases hl
  | _, _, us, Q, .cons (x := x) (p := p) (xs := xs) (es := es) hd r, hloc, hl, hm, hn, h => by
    cases us with
    | nil => cases hl
    | cons u us =>
      refine spliced_cons (PySem.ESX.ldL hn (hm (x, u) List.mem_cons_self) ?_ hk (hloc x List.mem_cons_self) hd)
      exact names_spliced hk r (fun y hy => hloc y (List.mem_cons_of_mem _ hy)) (by simpa using hl) (fun p hp => hm p (List.mem_cons_of_mem _ hp)) hn h
end
/-! ### self.f = f -/
theorem lookup_snoc {n : Str} {u : Value} : ∀ {pre : List (Str × Value)}, n ∉ pre.map (·.1) → ∀ f, (pre ++ [(n, u)]).lookup f = if f = n then some u else pre.lookup f
  | [], _, f => by
    by_cases e : f = n
    · subst e; simp [List.lookup]
    · have e2 : (f == n) = false := by simpa using e
      simp [List.lookup, e, e2]
  | (m, v) :: pre, hn, f => by
    have hn2 : n ∉ pre.map (·.1) := fun z => hn (List.mem_cons_of_mem _ z)
    have ih := lookup_snoc (u := u) hn2 f
    have nm : n ≠ m := fun z => hn (by rw [z]; exact List.mem_cons_self)
    by_cases e : f = m
    · subst e
      simp [List.lookup, Ne.symm nm]
    · have e2 : (f == m) = false := by simpa using e
      simp only [List.cons_append, List.lookup, e2]
      exact ih
abbrev exR (C t1 : Addr) (dv : Option Addr) : Obj := { cls := .ref C, dict := dv, data := .fields #[.ref t1, .none, .none, .none, .bool false, .none] }
/-- what is known of the class -/
structure ExK (K : Frag) (C : Addr) : Prop where
  ox : OexC K C
  mro : mroIn K C (.ref C) = some true
  sup : ks_superIn K C C "__init__" = some (some (.builtin "ValueError.__init__"))
  ve : subIn K (.ref C) (.type "ValueError") = some true
  opq : nsIn K cStatics "thirdparty.any" = some none
section
variable {prog : Program} {w : World} {A : Around} {E : Value → Shared → Prop} {hb : Heap} {g : Array GenState} {d : Drawn} {os : OsState} {K : Frag} {C x L t1 : Addr} {m : Str → Option Value} {env : PySem.Env} {self : Str}
theorem ns_other {h h' : Heap} {L dx : Addr} {m : Str → Option Value} (hn : h.Ns L m) (hL : L ≠ dx) (k : ∀ b o, b ≠ dx → h.get? b = some o → h'.get? b = some o) : h'.Ns L m := by
  obtain ⟨o, es, ep, e, r⟩ := hn
  exact ⟨o, es, ep, k _ _ hL e, r⟩
theorem stores_run (T : OexC K C) (Xb : K.In hb) (hx0 : hb.get? x = none) (hk : env.scope.kind = .function) (hLx : env.locals ≠ x) (hs : env.kindOf self = some .local) (hsd : (self == ("__debug__" : Str)) = false) (hms : m self = some (.ref x)) :
    ∀ {fs : List Str} {sts : List Stmt} {us : List Value} {pre : List (Str × Value)} {h : Heap} {t : Nat} {dx : Addr} {mA : Str → Option Value} {Q : Flow → Shared → Prop}, Stores self fs sts → us.length = fs.length → (∀ f ∈ fs, env.kindOf f = some .local ∧ (f == ("__debug__" : Str)) = false ∧ findIn K (.ref C) f = some none) →
    (∀ p ∈ fs.zip us, m p.1 = some p.2) → (pre.map (·.1) ++ fs).Nodup → pre.length + fs.length ≤ 900 → (∀ b o, hb.get? b = some o → h.get? b = some o) → hb.get? dx = none → env.locals ≠ dx → dx ≠ x → h.get? x = some (exR C t1 (some dx)) → h.Ns1 dx mA → (∀ f, mA f = pre.lookup f) → h.Ns env.locals m →
    (∀ h' t' mA', (∀ b o, b ≠ dx → h.get? b = some o → h'.get? b = some o) → h'.Ns1 dx mA' → (∀ f, mA' f = (pre ++ fs.zip us).lookup f) → Q .next ⟨h', g, d, t', os⟩) →
    wpAny (model prog w) A (execs sts env) Q E ⟨h, g, d, t, os⟩
  | _, _, us, pre, h, t, dx, mA, Q, .nil, hl, _, _, _, _, _, _, _, _, _, hns, hmA, _, hq => by
    cases us with
    | nil => exact wpAny_execs_nil (hq h t mA (fun _ _ _ e => e) hns (by simpa using hmA))
    | cons _ _ => cases hl
  | _, _, us, pre, h, t, dx, mA, Q, .cons (f := f) (p1 := p1) (p2 := p2) (p3 := p3) (p4 := p4) (fs := fs) (sts := sts) r, hl, hf, hm, hnd, h900, kb, hdx0, hLd, hdx, hxo, hns, hmA, hloc, hq => by
    cases us with
    | nil => cases hl
    | cons u us =>
      obtain ⟨f1, f2, f3⟩ := hf f List.mem_cons_self
      have Xh : K.In h := Xb.keeps kb
      have nf : f ∉ pre.map (·.1) := fun z => (List.nodup_append.mp hnd).2.2 f z f List.mem_cons_self rfl
      obtain ⟨nm, q, N, bs, bm, sn, sub, ab, col, dd, k0, k1, k2, k3, k5, hC, hbm⟩ := T.cls
      have hcl : clsIn K C = some { name := nm, bases := bs, mro := .ref C :: bm, ns := N, qualname := q, hasDict := true, slotNames := sn, subclasses := sub, abstract := ab, collection := col, hasDel := false } := by unfold clsIn; rw [hC] <;> rfl
      have hw : Within mA (pre.map (·.1)) := fun y hy => by
        cases e : pre.lookup y with
        | none => rw [hmA, e] at hy; exact absurd rfl hy
        | some v =>
          have : ∀ {l : List (Str × Value)} {v : Value}, l.lookup y = some v → y ∈ l.map (·.1) := by
            intro l
            induction l with
            | nil => intro v z; cases z
            | cons p l ih =>
              intro v z
              obtain ⟨n, w⟩ := p
              by_cases e : y = n
              · rw [e]; exact List.mem_cons_self
              · have e2 : (y == n) = false := by simpa using e
                simp only [List.lookup, e2] at z
                exact List.mem_cons_of_mem _ (ih z)
          exact this e
      obtain ⟨oD, _, _, hoD, _, _⟩ := hns.count hw
      refine wpAny_execs_cons (plainObj_wpAny_Assign_Attribute (PySem.ESX.ldL hloc (hm (f, u) List.mem_cons_self) (PySem.ESX.ldL hloc hms ?_ hk hs hsd) hk f1 f2))
      refine set_plain Xh (ox := exR C t1 (some dx)) (od := some oD) ⟨hxo, rfl, rfl, hoD⟩ T.sa ?_
      refine PySem.OEX.osa_old Xh hxo hns hw (by rw [List.length_map]; omega) hcl hbm rfl f3 fun h' tk' k hn' => ?_
      have hx' : h'.get? x = some (exR C t1 (some dx)) := k x _ (Ne.symm hdx) hxo
      refine stores_run T Xb hx0 hk hLx hs hsd hms r (pre := pre ++ [(f, u)]) (us := us) (h := h') (mA := fun y => if y = f then some u else mA y) (by simpa using hl) (fun z hz => hf z (List.mem_cons_of_mem _ hz)) (fun p hp => hm p (List.mem_cons_of_mem _ hp)) ?_ ?_ (fun b o e => k b o ?_ (kb b o e)) hdx0 hLd hdx hx' hn' ?_ (ns_other hloc hLd k) fun h'' t' mA' k2 hn2 hm2 => hq h'' t' mA' (fun b o hb1 e => k2 b o hb1 (k b o hb1 e)) hn2 ?_
      · rw [List.map_append]
        simpa using hnd
      · rw [List.length_append]
        simp only [List.length_cons, List.length_nil] at h900 ⊢
        omega
      · intro z
        rw [z, hdx0] at e
        cases e
      · intro y
        rw [lookup_snoc nf y, hmA]
      · intro y
        rw [hm2, List.append_assoc]
        rfl
/-- the first store makes the dict -/
theorem stores_first (T : OexC K C) (Xb : K.In hb) (hx0 : hb.get? x = none) (hk : env.scope.kind = .function) (hLx : env.locals ≠ x) (hs : env.kindOf self = some .local) (hsd : (self == ("__debug__" : Str)) = false) (hms : m self = some (.ref x))
    {fs : List Str} {sts : List Stmt} {us : List Value} {h : Heap} {t : Nat} {Q : Flow → Shared → Prop} (r : Stores self fs sts) (hl : us.length = fs.length) (hf : ∀ f ∈ fs, env.kindOf f = some .local ∧ (f == ("__debug__" : Str)) = false ∧ findIn K (.ref C) f = some none)
    (hm : ∀ p ∈ fs.zip us, m p.1 = some p.2) (hnd : fs.Nodup) (h0 : fs ≠ []) (h900 : fs.length ≤ 900) (kb : ∀ b o, hb.get? b = some o → h.get? b = some o) (hxo : h.get? x = some (exR C t1 none)) (hloc : h.Ns env.locals m)
    (hq : ∀ h' t' dx mA, (∀ b o, b ≠ x → h.get? b = some o → h'.get? b = some o) → h.objs.size ≤ dx → dx ≠ x → h'.get? x = some (exR C t1 (some dx)) → h'.Ns1 dx mA → (∀ f, mA f = (fs.zip us).lookup f) → Q .next ⟨h', g, d, t', os⟩) :
    wpAny (model prog w) A (execs sts env) Q E ⟨h, g, d, t, os⟩ := by
  cases r with
  | nil => exact absurd rfl h0
  | @cons f p1 p2 p3 p4 fs sts r =>
    cases us with
    | nil => cases hl
    | cons u us =>
      obtain ⟨f1, f2, f3⟩ := hf f List.mem_cons_self
      have Xh : K.In h := Xb.keeps kb
      obtain ⟨nm, q, N, bs, bm, sn, sub, ab, col, dd, k0, k1, k2, k3, k5, hC, hbm⟩ := T.cls
      have hcl : clsIn K C = some { name := nm, bases := bs, mro := .ref C :: bm, ns := N, qualname := q, hasDict := true, slotNames := sn, subclasses := sub, abstract := ab, collection := col, hasDel := false } := by unfold clsIn; rw [hC] <;> rfl
      refine wpAny_execs_cons (plainObj_wpAny_Assign_Attribute (PySem.ESX.ldL hloc (hm (f, u) List.mem_cons_self) (PySem.ESX.ldL hloc hms ?_ hk hs hsd) hk f1 f2))
      refine set_plain Xh (ox := exR C t1 none) (od := none) ⟨hxo, rfl, rfl, trivial⟩ T.sa ?_
      refine PySem.HandSPX.exc_osa Xh hxo hcl hbm rfl f3 fun h' tk' dx k hsz hdx hx' hn' => ?_
      obtain ⟨oL, _, _, eL, _⟩ := id hloc
      have hLd : env.locals ≠ dx := fun z => by
        rw [z] at eL
        exact absurd (Heap.lt_size eL) (Nat.not_lt.mpr hsz)
      have hdx0 : hb.get? dx = none := by
        cases q : hb.get? dx with
        | none => rfl
        | some o => exact absurd (Heap.lt_size (kb _ _ q)) (Nat.not_lt.mpr hsz)
      refine stores_run T Xb hx0 hk hLx hs hsd hms r (pre := [(f, u)]) (us := us) (h := h') (mA := fun y => if y = f then some u else none) (by simpa using hl) (fun z hz => hf z (List.mem_cons_of_mem _ hz)) (fun p hp => hm p (List.mem_cons_of_mem _ hp)) (by simpa using hnd) (by simp only [List.length_cons, List.length_nil] at h900 ⊢; omega)
        (fun b o e => k b o (fun z => by rw [z, hx0] at e; cases e) (kb b o e)) hdx0 hLd hdx hx' hn' (fun y => ?_) (ns_other hloc hLx k) fun h'' t' mA' k2 hn2 hm2 => hq h'' t' dx mA' (fun b o hb1 e => ?_) hsz hdx ?_ hn2 hm2
      · by_cases e : y = f
        · subst e; simp [List.lookup]
        · have e2 : (y == f) = false := by simpa using e
          simp [List.lookup, e, e2]
      · have hbd : b ≠ dx := fun z => by
          rw [z] at e
          exact absurd (Heap.lt_size e) (Nat.not_lt.mpr hsz)
        exact k2 b o hbd (k b o hb1 e)
      · exact k2 x _ (Ne.symm hdx) hx'
/-- super().__init__(a, b) -/
theorem super_run {ns : List Str} {es : List Expr} {us : List Value} {p0 p1 p2 p3 p4 : Pos} {body : List Stmt} {h : Heap} {t : Nat} {f cc cda t0 : Addr} {fd : FuncData} {of : Obj} {ar : Arg} {vs : Array Value} {file : Str} {tf : Tok} {ocd occ : Obj} {mg mb : Str → Option Value} {Q : Flow → Shared → Prop}
    (T : ExK K C) (Xb : K.In hb) (kb : ∀ b o, hb.get? b = some o → h.get? b = some o) (hk : env.scope.kind = .function) (hLx : env.locals ≠ x) (hs : env.kindOf self = some .local) (hsd : (self == ("__debug__" : Str)) = false) (hms : m self = some (.ref x)) (hloc : h.Ns env.locals m)
    (hxo : h.get? x = some (exR C t0 none)) (hns : NamesE ns es) (hne : es ≠ []) (hl : us.length = ns.length) (hf : ∀ f ∈ ns, env.kindOf f = some .local) (hm : ∀ p ∈ ns.zip us, m p.1 = some p.2) (hz : us.length ≤ 900)
    (hks : env.kindOf "super" = some .globalImplicit) (hkc : env.kindOf "__class__" = some .free) (hfu : env.func = some f) (hfo : hb.get? f = some of) (hfd : of.data = .func fd) (hp : (fd.params.posonlyargs ++ fd.params.args).head? = some ar) (har : ar.arg = self)
    (hco : env.code = .ref cda) (hcd : hb.get? cda = some ocd) (hoc : ocd.data = .fields vs) (hvs : vs[2]? = some (.str file tf)) (hfile : ((prog.main.file : Str) == file) = true) (htop : (prog.main.scope.names.lookup ("super" : Str)).isSome = false)
    (hcl : env.cells.lookup ("__class__" : Str) = some cc) (hcc : hb.get? cc = some occ) (hcv : occ.data = .cell (some (.ref C))) (hgl : env.globals = mainGlobals) (hbl : env.builtins = builtinsNs) (hG : hb.Ns mainGlobals mg) (hsup : mg "super" = none) (hB : hb.Ns builtinsNs mb) (hbb : mb "super" = some (.type "super"))
    (hint : interactive env = false) (hsw : swapsWith (.Call (.Attribute (.Call (.Name "super" p0) [] [] p1) "__init__" p2) es [] p3) none p4.line env = pure false) (pl : Sem Bool)
    (hev : eval (.Call (.Attribute (.Call (.Name "super" p0) [] [] p1) "__init__" p2) es [] p3) env = (do
      let ov ← attributeBase (.Call (.Name "super" p0) [] [] p1) "__init__" env (eval (.Call (.Name "super" p0) [] [] p1) env)
      standAt p2.atName
      let (f, first) ← holding [ov] (getMethod ov "__init__" pl)
      callWith p3 f first (backTo p3 (starEach es env)) []))
    (hst : ∀ e rest, es = e :: rest → starEach (e :: rest) env = (false, eval e env) :: starEach rest env ∧ (backTo p3 (starEach rest env)).any (·.1) = false)
    (hq : ∀ h' t' t1, (∀ b o, b ≠ x → h.get? b = some o → h'.get? b = some o) → h'.get? x = some (exR C t1 none) → Q .next ⟨h', g, d, t', os⟩) :
    _root_.PySem.wpAt (model prog w) A (.func body env) (exec (.Expr (.Call (.Attribute (.Call (.Name "super" p0) [] [] p1) "__init__" p2) es [] p3) p4) env) Q E ⟨h, g, d, t, os⟩ := by
  have Xh : K.In h := Xb.keeps kb
  obtain ⟨nm, q, N, bs, bm, sn, sub, ab, col, dd, k0, k1, k2, k3, k5, hC, hbm⟩ := T.ox.cls
  have hcl0 : clsIn K C = some { name := nm, bases := bs, mro := .ref C :: bm, ns := N, qualname := q, hasDict := true, slotNames := sn, subclasses := sub, abstract := ab, collection := col, hasDel := false } := by unfold clsIn; rw [hC] <;> rfl
  have eC := Xh _ _ hC
  have kN : ∀ {a : Addr} {mm : Str → Option Value}, hb.Ns a mm → h.Ns a mm := fun {a mm} ⟨o, es, ep, e, r⟩ => ⟨o, es, ep, kb _ _ e, r⟩
  refine ks_wpAt_Expr_any (ks_wpAt_MethodCall (pl := pl) ?_ hev) hint hsw
  refine ks_wpAt_super_base hks hkc (by decide) hfu (kb _ _ hfo) hfd hp hco (kb _ _ hcd) hoc hvs hfile htop ?_
  refine ks_loadName_global hk hks (loadGlobal_builtin (by rw [hgl]; exact kN hG) hsup (by rw [hbl]; exact kN hB) hbb ⟨rfl, ?_⟩)
  refine wpAny_loadName_free hk hkc hcl ⟨_, kb _ _ hcc, hcv⟩ ?_
  rw [har]
  refine wpAny_loadName_local hk hs hloc hms ?_
  refine ks_wpAny_isType_cls eC rfl ⟨rfl, ?_⟩
  refine ks_wpAny_call_super eC rfl hxo rfl (fun c e => by cases e) (looks_mroIn Xh T.mro) fun h1 e1 up1 => ?_
  have X1 : K.In h1 := Xh.keeps up1
  have I1 : InstAt h1 x (exR C t0 none) C none := ⟨up1 _ _ hxo, rfl, rfl, trivial⟩
  have hm1 := T.sup
  unfold ks_superIn at hm1
  rw [hcl0] at hm1
  refine kxs_getMethod kxs_ValueError e1 (looks_opaque X1 T.opq) (l₀ := .ref C :: bm) ?_ rfl X1 hm1 (I1.type.andThen (looks_subIn X1 T.ve)) (ks_ne X1 I1 hcl0) (by decide) ?_
  · exact fun A Q E s k z => wpAny_bind ((looks_clsIn X1 hcl0) A _ E s k (wpAny_pure z))
  have up2 : ∀ b o, h1.get? b = some o → (h1.push (kxs_mw "ValueError.__init__" x)).get? b = some o := fun b o e => Heap.get?_push_of_some _ e
  cases es with
  | nil => exact absurd rfl hne
  | cons e rest =>
    obtain ⟨st1, st2⟩ := hst e rest rfl
    rw [st1]
    refine kxs_callWith (i := "ValueError.__init__") (u := h1.objs.size) (x := x) (by show (false || (backTo p3 (starEach rest env)).any (·.1)) = false; rw [st2]; rfl) (evalArgs_plain ?_)
    have hloc2 : (h1.push (kxs_mw "ValueError.__init__" x)).Ns env.locals m := by
      obtain ⟨oL, es', ep, eL, r⟩ := hloc
      exact ⟨oL, es', ep, up2 _ _ (up1 _ _ eL), r⟩
    have e3 : (h1.push (kxs_mw "ValueError.__init__" x)).get? h1.objs.size = some (kxs_mw "ValueError.__init__" x) := Heap.get?_push_at rfl rfl
    show wpAny _ _ (spliced (backTo p3 ((false, eval e env) :: starEach rest env))) _ _ _
    rw [← st1]
    refine names_spliced hk hns hf hl hm hloc2 ⟨e3, ?_⟩
    refine mw_call (up2 _ _ (up1 _ _ eC)) (up2 _ _ (up1 _ _ hxo)) e3 (Nat.le_trans hz (by rw [sizeLine_eq]; omega)) fun h' t1 k hx' => ?_
    exact hq h' _ t1 (fun b o hb1 z => k b o hb1 (up2 _ _ (up1 _ _ z))) hx'
end
end L2.MX
end
section
set_option Elab.async false
set_option linter.all false
set_option maxRecDepth 100000
set_option maxHeartbeats 1000000
/-! MxP: raise C(a, b) of such a class. -/
namespace L2.MX
open PySem PySem.Spec PyProof.Rows PySem.W PySem.Calls
open PySem.HandSPX (excO refsVE)
/-- the class's __init__ -/
structure ExI (P : Program) (K : Frag) (C fI : Addr) (params : Arguments) (body : List Stmt) (scope : Scope) : Prop where
  init : findIn K (.ref C) "__init__" = some (some (.ref fI))
  ty : typeIn K (.ref fI) = some (.type "function")
  fn : ∃ (oc : Value) (od : Option Addr) (osl : Array (Option Value)) (qual : Str) (kV doc pm ct : Value) (an : Option Addr) (cda cc : Addr), K.lookup fI = some ⟨oc, od, .func (fnX "__init__" qual params body scope [("__class__", cc)] .none kV doc pm an (.ref cda) ct), osl⟩ ∧ codeIn K (.ref cda) qual = true ∧
    (∃ (o : Obj) (vs : Array Value) (file : Str) (tf : Tok), K.lookup cda = some o ∧ o.data = .fields vs ∧ vs[2]? = some (.str file tf) ∧ ((P.main.file : Str) == file) = true) ∧ ∃ o : Obj, K.lookup cc = some o ∧ o.data = .cell (some (.ref C))
/-- .. its text: def __init__(self, a, b): super().__init__(a, b); self.a = a; self.b = b -/
structure ExT (params : Arguments) (body : List Stmt) (scope : Scope) (sf : Str) (ns : List Str) : Prop where
  shape : ∃ (p0 p1 p2 p3 p4 : Pos) (es : List Expr) (sts : List Stmt) (pl : Sem Bool), body = .Expr (.Call (.Attribute (.Call (.Name "super" p0) [] [] p1) "__init__" p2) es [] p3) p4 :: sts ∧ NamesE ns es ∧ es ≠ [] ∧ Stores sf ns sts ∧
    ∀ env : PySem.Env, env.scope = scope → interactive env = false ∧ swapsWith (.Call (.Attribute (.Call (.Name "super" p0) [] [] p1) "__init__" p2) es [] p3) none p4.line env = pure false ∧
      eval (.Call (.Attribute (.Call (.Name "super" p0) [] [] p1) "__init__" p2) es [] p3) env = (do
        let ov ← attributeBase (.Call (.Name "super" p0) [] [] p1) "__init__" env (eval (.Call (.Name "super" p0) [] [] p1) env)
        standAt p2.atName
        let (f, first) ← holding [ov] (getMethod ov "__init__" pl)
        callWith p3 f first (backTo p3 (starEach es env)) []) ∧
      ∀ e rest, es = e :: rest → starEach (e :: rest) env = (false, eval e env) :: starEach rest env ∧ (backTo p3 (starEach rest env)).any (·.1) = false
  bind : ∀ (qual : Str) (cc : Addr) (kV doc pm : Value) (an : Option Addr) (cdv ct : Value) (us : List Value), us.length = ns.length + 1 → bindArgs (fnX "__init__" qual params body scope [("__class__", cc)] .none kV doc pm an cdv ct) ⟨us, []⟩ = pure ((sf :: ns).zip us)
  head : ∃ ar : Arg, (params.posonlyargs ++ params.args).head? = some ar ∧ ar.arg = sf
  kind : scope.kind = .function
  co : scope.isCoroutine = false
  gen : scope.isGenerator = false
  cells : ∀ y ∈ scope.names, y.2 ≠ .cell
  loc : ∀ y ∈ sf :: ns, scope.names.lookup y = some .local ∧ (y == ("__debug__" : Str)) = false
  sup : scope.names.lookup ("super" : Str) = some .globalImplicit
  cls : scope.names.lookup ("__class__" : Str) = some .free
  nd : (sf :: ns).Nodup
  len : ns.length ≤ 900
def tMkX (C : Addr) (ns : List Str) (ta : TA) : St → Hp → XK → Prop := fun σ H Q => ta σ H fun vs H1 => vs.length = ns.length ∧ ∀ d, H1 d = none → Q (.ref C) (some d) (upd H1 d (.xd (ns.zip vs)))
theorem relO_zip : ∀ {ns : List Str} {vs : List V} {us : List Value}, Vals vs us → ∀ f, RelO ((ns.zip vs).lookup f) ((ns.zip us).lookup f)
  | [], _, _, _, f => True.intro
  | _ :: _, _, _, .nil, f => True.intro
  | n :: ns, _, _, .cons h r, f => by
    by_cases e : f = n
    · subst e
      simp only [List.zip_cons_cons, List.lookup, beq_self_eq_true]
      exact h
    · have e2 : (f == n) = false := by simpa using e
      simp only [List.zip_cons_cons, List.lookup, e2]
      exact relO_zip r f
theorem zip_rev_lookup {ns : List Str} {us : List Value} (hnd : ns.Nodup) (hl : us.length = ns.length) : ∀ p ∈ ns.zip us, (ns.zip us).reverse.lookup p.1 = some p.2 := by
  have key : ∀ (l : List (Str × Value)), (l.map (·.1)).Nodup → ∀ p ∈ l, l.lookup p.1 = some p.2 := by
    intro l
    induction l with
    | nil => intro _ p hp; cases hp
    | cons q l ih =>
      intro hn p hp
      rw [List.map_cons, List.nodup_cons] at hn
      rcases List.mem_cons.mp hp with rfl | hp
      · simp [List.lookup]
      · have : p.1 ≠ q.1 := fun z => hn.1 (by rw [← z]; exact List.mem_map_of_mem hp)
        have e2 : (p.1 == q.1) = false := by simpa using this
        simp only [List.lookup, e2]
        exact ih hn.2 p hp
  intro p hp
  refine key _ ?_ p (by simpa using hp)
  rw [List.map_reverse, List.map_fst_zip (by omega)]
  exact (List.reverse_perm ns).nodup_iff.mpr hnd
section
variable {X : Cx} {x : Str} {C fI : Addr} {self : Str} {ns : List Str} {params : Arguments} {body : List Stmt} {scope : Scope} {p pos : Pos} {e : Expr} {es : List Expr} {ta : TA}
theorem pmk_exc (T : ExK X.K C) (XI : ExI X.prog X.K C fI params body scope) (XT : ExT params body scope self ns) (no : ∀ f ∈ ns, findIn X.K (.ref C) f = some none) (hsup : X.mg "super" = none) (htop : (X.prog.main.scope.names.lookup ("super" : Str)).isSome = false) (hr : Room 1 X.A)
    (hg : Gl X x) (hm : X.mg x = some (.ref C)) (ha : PA X (e :: es) ta) (hdb : (x == ("__debug__" : Str)) = false := by decide) (he : starEach (e :: es) X.env = (false, eval e X.env) :: starEach es X.env := by rfl) (hpl : (backTo pos (starEach es X.env)).any (·.1) = false := by rfl) :
    PMk X (.Call (.Name x p) (e :: es) [] pos) (tMkX C ns ta) := by
  intro pins s σ H Q I h
  obtain ⟨nm, q, N, bs, bm, sn, sub, ab, col, dd, k0, k1, k2, k3, k5, hC, hbm⟩ := T.ox.cls
  refine wpAny_Call_Name_kw (ld_glob I hg hm ?_ hdb)
  refine callWith_K (h₀ := X.base) I.ok.mod.kin T.ox.kC (thn (ha.run pos pins s σ H _ I h) ?_) he hpl
  rintro us s1 ⟨vs, H1, I1, r1, hlen, q1⟩
  refine ⟨I1.kIn, ?_⟩
  show wpAny _ _ (call (.ref C) us) _ _ _
  have hul : us.length = ns.length := (Paired.length r1).symm.trans hlen
  have hus : us.length ≤ sizeLine := by
    have := XT.len
    rw [sizeLine_eq]
    omega
  obtain ⟨oc, od, osl, qual, kV, doc, pm, ct, an, cda, cc, lkI, hcd, ⟨ocd, fvs, file, tf, lkC, hoc, hfv, hfile⟩, occ, lkc, hcv⟩ := XI.fn
  obtain ⟨p0, p1, p2, p3, p4, es0, sts, pl, hbody, hnE, hne, hSt, henv⟩ := XT.shape
  obtain ⟨ar, har1, har2⟩ := XT.head
  obtain ⟨mb, hB, hbb⟩ := I1.ok.mod.blt
  have Xs : X.K.In s1.heap := I1.kIn
  have bk := I1.bk
  obtain ⟨hp, gg, dr, tk, os⟩ := s1
  have hget : ((hp.push (kdv_tup us)).push (excO C hp.objs.size)).get? (hp.objs.size + 1) = some (excO C hp.objs.size) := by heap_get
  have kk : ∀ b o, hp.get? b = some o → ((hp.push (kdv_tup us)).push (excO C hp.objs.size)).get? b = some o := fun b o e => Heap.get?_push_of_some _ (Heap.get?_push_of_some _ e)
  have hx0 : hp.get? (hp.objs.size + 1) = none := by
    cases z : hp.get? (hp.objs.size + 1) with
    | none => rfl
    | some o => exact absurd (Heap.lt_size z) (Nat.not_lt.mpr (Nat.le_succ _))
  have bN : ∀ {a : Addr} {mm : Str → Option Value}, X.base.Ns a mm → hp.Ns a mm := fun {a mm} ⟨o, es, ep, e, r⟩ => ⟨o, es, ep, bk _ _ e, r⟩
  have hlim : hp.NoLimit := I1.ok.mod.nolimit.keeps bk
  refine wpAny_call (PySem.HandSPX.call_own F.excBase_ValueError (fun Y => PySem.HandSPX.refsVE_contains Y bm hbm) (Xs _ _ hC) (looks_findIn Xs XI.init) (fun sf => bind_fn Xs sf XI.ty) hus ?_)
  refine ks_codeAny_call_defAt (fd := fnX "__init__" qual params body scope [("__class__", cc)] .none kV doc pm an (.ref cda) ct) (body := body) (binds := (self :: ns).zip (.ref (hp.objs.size + 1) :: us)) ?_ (kk _ _ (Xs _ _ lkI)) rfl (hlim.keeps kk) (codeRec_of (Xs.keeps kk) hcd) rfl
    (.of_eq (XT.bind _ _ _ _ _ _ _ _ _ (by simp [hul]))) XT.cells (fun y hy => (XT.loc _ (List.of_mem_zip hy).1).1) (fun h1 hns hk1 => ?_) XT.co XT.gen XT.kind
  · have := hr.dp
    rw [make_depth]
    omega
  -- the frame
  let fd : FuncData := fnX "__init__" qual params body scope [("__class__", cc)] .none kV doc pm an (.ref cda) ct
  let h2 : Heap := (hp.push (kdv_tup us)).push (excO C hp.objs.size)
  let env : PySem.Env := callEnv fd h2.objs.size fI
  obtain ⟨hint, hsw, hev, hst⟩ := henv env rfl
  have hnd := XT.nd
  have mz : ∀ p ∈ (self :: ns).zip (Value.ref (hp.objs.size + 1) :: us), ((self :: ns).zip (Value.ref (hp.objs.size + 1) :: us)).reverse.lookup p.1 = some p.2 := zip_rev_lookup hnd (by simp [hul])
  have lx : env.locals ≠ hp.objs.size + 1 := by
    show h2.objs.size ≠ hp.objs.size + 1
    show ((hp.push (kdv_tup us)).push (excO C hp.objs.size)).objs.size ≠ _
    rw [Heap.size_push, Heap.size_push]
    omega
  have kb1 : ∀ b o, hp.get? b = some o → h1.get? b = some o := fun b o e => hk1 b o (kk b o e)
  have hb2 : execs body env = execs (.Expr (.Call (.Attribute (.Call (.Name "super" p0) [] [] p1) "__init__" p2) es0 [] p3) p4 :: sts) env := by rw [hbody]
  show _root_.PySem.wpAt _ _ (.func body env) (execs body env) _ _ _
  rw [hb2]
  refine ks_wpAt_execs_cons (super_run (hb := hp) (K := X.K) (C := C) (x := hp.objs.size + 1) (m := fun y => ((self :: ns).zip (Value.ref (hp.objs.size + 1) :: us)).reverse.lookup y) (self := self) (env := env) T Xs kb1 XT.kind lx (XT.loc self List.mem_cons_self).1 (XT.loc self List.mem_cons_self).2 (mz (self, _) List.mem_cons_self) hns (hk1 _ _ hget) hnE hne hul
    (fun f hf => (XT.loc f (List.mem_cons_of_mem _ hf)).1) (fun p hp => mz p (List.mem_cons_of_mem _ hp)) (by have := XT.len; omega) XT.sup XT.cls rfl (Xs _ _ lkI) rfl har1 har2 rfl (Xs _ _ lkC) hoc hfv hfile htop (by show List.lookup ("__class__" : Str) [(("__class__" : Str), cc)] = some cc; simp [List.lookup]) (Xs _ _ lkc) hcv rfl rfl
    (bN I1.ok.mod.glob) hsup (bN hB) ((hbb _ (by decide)).trans (by decide +kernel)) hint hsw pl hev hst fun h3 t3 t1 k3 hx3 => ?_)
  have kb3 : ∀ b o, hp.get? b = some o → h3.get? b = some o := fun b o e => k3 b o (fun z => by rw [z, hx0] at e; cases e) (kb1 b o e)
  have loc3 : h3.Ns env.locals (fun y => ((self :: ns).zip (Value.ref (hp.objs.size + 1) :: us)).reverse.lookup y) := ns_other hns lx k3
  have n0 : ns ≠ [] := fun z => by
    rw [z] at hnE
    cases hnE
    exact hne rfl
  show _root_.PySem.wpAt _ _ _ (execs sts env) _ _ _
  refine wpAt_of_wpAny (stores_first (hb := hp) (K := X.K) (C := C) (x := hp.objs.size + 1) (self := self) T.ox Xs hx0 XT.kind lx (XT.loc self List.mem_cons_self).1 (XT.loc self List.mem_cons_self).2 (mz (self, _) List.mem_cons_self) hSt hul
    (fun f hf => ⟨(XT.loc f (List.mem_cons_of_mem _ hf)).1, (XT.loc f (List.mem_cons_of_mem _ hf)).2, no f hf⟩) (fun p hp => mz p (List.mem_cons_of_mem _ hp)) (List.nodup_cons.mp hnd).2 n0 XT.len kb3 hx3 loc3 fun h4 t4 dx mA k4 hsz4 hdx hx4 hn4 hm4 => ?_)
  have kb4 : ∀ b o, hp.get? b = some o → h4.get? b = some o := fun b o e => k4 b o (fun z => by rw [z, hx0] at e; cases e) (kb3 b o e)
  have hsz : hp.objs.size ≤ dx := by
    have := Heap.lt_size hx3
    exact Nat.le_trans (Nat.le_trans (Nat.le_succ _) (Nat.le_of_lt this)) hsz4
  obtain ⟨G, g1, g2⟩ := restrict h4 fun b => decide (b ≠ hp.objs.size + 1)
  have gk : ∀ b, b ≠ hp.objs.size + 1 → G.get? b = h4.get? b := fun b hb => g1 b (decide_eq_true hb)
  have hok : ObjOk X.prog X.w (upd H1 dx (.xd (ns.zip vs))) G dx (.xd (ns.zip vs)) := by
    refine ⟨mA, ?_, fun f => ?_⟩
    · obtain ⟨o, es', ep, e', r'⟩ := hn4
      exact ⟨o, es', ep, (gk dx hdx).trans e', r'⟩
    · rw [hm4]
      exact relO_zip r1 f
  have J := I1.laid (a := dx) (o := .xd (ns.zip vs)) (h' := G) (t' := t4) (fun b o e => (gk b (fun z => by rw [z, hx0] at e; cases e)).trans (kb4 b o e)) hsz hok
  refine ⟨rfl, hp.objs.size + 1, _, _, _, _, .ref C, some dx, rfl, J, fun b o e => ?_, g2 _ (by simp), hx4, ⟨rfl, rfl⟩, rfl, rfl, ?_, rfl, J.bare, raises_own T.ox.exC T.ox.tyC, q1 dx (I1.hok.fresh hsz)⟩
  · by_cases hb : b = hp.objs.size + 1
    · rw [hb, g2 _ (by simp)] at e; cases e
    · rw [gk b hb] at e; exact e
  · rw [upd_ne (Ne.symm hdx)]
    exact I1.hok.fresh (Nat.le_succ _)
end
end L2.MX
end
section
set_option Elab.async false
set_option linter.all false
set_option maxRecDepth 100000
/-! MxO: repr of data; raise. -/
namespace L2.MX
open PySem PySem.Spec PyProof.Rows
variable [tb : TabT]
abbrev showB (p : PyData) : Bool := p.showable && SeqAt.shaped p && decide (p.shown.length ≤ 100000)
def rRep (K : PySem.W.Frag) : List V → Hp → VK → Prop := fun xs H Q => ∃ x p, xs = [x] ∧ Dp K H x p ∧ showB p = true ∧ Q (.str p.shown) H
theorem call_reprD {X : Cx} (hg : X.A.guards = some []) (hu : X.A.units + 70 < cLine) : CallR X (.builtin "repr") (rRep X.K) := by
  intro pins s σ H xs us Q I r h
  obtain ⟨x, p, rfl, hd, hs, q⟩ := h
  obtain ⟨h1, h2⟩ := Bool.and_eq_true_iff.mp hs
  obtain ⟨h1, h3⟩ := Bool.and_eq_true_iff.mp h1
  have h2 : p.shown.length ≤ sizeLine := Nat.le_trans (of_decide_eq_true h2) (by rw [sizeLine_eq]; decide)
  have h4 : p.depth ≤ 64 := SeqAt.depth_of_shaped h3
  obtain ⟨u, rfl, ru⟩ := vals1 r
  obtain ⟨as, rd⟩ := Dp.reads I p x u hd ru
  have hnd : p.hasDict = true → sysModules ∉ as := PyData.noDict_hsm (PyData.hasDict_of_canLay p (SeqAt.canLay_of_shaped h3))
  cases rd with
  | none => exact PySem.P.repr_of_none ⟨.str _, H, I.tok _, ⟨_, rfl⟩, by simpa only [PyData.shown] using q⟩
  | bool b => exact PySem.P.repr_of_bool ⟨.str _, H, I.tok _, ⟨_, rfl⟩, by simpa only [PyData.shown] using q⟩
  | int i t => exact PySem.P.repr_of_int (by simpa [PyData.showable] using h1) ⟨.str _, H, I.tok _, ⟨_, rfl⟩, by simpa only [PyData.shown] using q⟩
  | str y t => exact PySem.P.repr_of_str ⟨.str _, H, I.tok _, ⟨_, rfl⟩, by simpa only [PyData.shown] using q⟩ (by simpa only [PyData.shown] using h2)
  | list a b c d =>
    refine repr_of_reads' (h₀ := s.heap) (.list a b c d) h1 hnd hg (by omega) (fun _ _ e => e) (fun h' w tk k => ?_) h2
    exact ⟨.str _, H, I.kept k, ⟨_, rfl⟩, q⟩
  | tuple a b c d =>
    refine repr_of_reads' (h₀ := s.heap) (.tuple a b c d) h1 hnd hg (by omega) (fun _ _ e => e) (fun h' w tk k => ?_) h2
    exact ⟨.str _, H, I.kept k, ⟨_, rfl⟩, q⟩
  | dict a b c d e => cases hd
/-! ### repr(x) -/
def dRepr : List D → Option RV
  | [d] => (toPy d).bind fun p => if showB p = true then some (.pl (.str p.shown)) else none
  | _ => none
theorem s_repr {K : PySem.W.Frag} : CallS K dRepr (rRep K) := by
  intro G H xs ds rv Q s h e k
  unfold dRepr at e
  split at e
  · rename_i d
    cases h with
    | cons h1 h2 =>
      cases h2
      cases q : toPy d with
      | none => rw [q] at e; cases e
      | some p =>
        rw [q] at e
        have e : (if showB p = true then some (RV.pl (.str p.shown)) else none) = some rv := e
        split at e
        · rename_i hs
          cases e
          exact ⟨_, p, rfl, toPy2 s h1 q, hs, end_str s k⟩
        · cases e
  · cases e
theorem me_repr {X : Cx} {W : WX} {e : Expr} {ma : MA} {p pos : Pos} {n : Nat} (hgd : X.A.guards = some []) (hr : Room n X.A) (hm : X.mg "repr" = none) (ha : MAr X W [e] ma) (hg : Gl X "repr" := by rfl) (he : starEach [e] X.env = (false, eval e X.env) :: starEach [] X.env := by rfl) :
    ME X W (.Call (.Name "repr" p) [e] [] pos) (mCall dRepr ma) := me_callB (call_reprD hgd (by have := hr.un; omega)) s_repr hg hm (by decide +kernel) ha (by decide) (by decide) he (by rfl)
/-! ### raise C(a, b) -/
/-- what is known of an exception class -/
structure XFact (P : Program) (K : PySem.W.Frag) (mg : Str → Option Value) (x : Str) (ns : List Str) : Prop where
  k : ExK K (He.ga K x)
  i : ∃ (fI : Addr) (sf : Str) (params : Arguments) (body : List Stmt) (scope : Scope), ExI P K (He.ga K x) fI params body scope ∧ ExT params body scope sf ns
  no : ∀ f ∈ ns, PySem.W.findIn K (.ref (He.ga K x)) f = some none
  gm : mg x = some (.ref (He.ga K x))
  xf : XfC K (He.ga K x)
  sup : mg "super" = none
  top : (P.main.scope.names.lookup ("super" : Str)).isSome = false
def exS : ER Exc → SR
  | .bad => .bad
  | .ok x ρ => .ex x ρ
  | .ex x ρ => .ex x ρ
def sRaise (c : Str) (fs : List Str) (args : MA) : MS := fun ρ => exS (bindM (args ρ) fun os ρ1 => match vals os with
  | some ds => if ds.length = fs.length then .ok ⟨c, fs, ds⟩ ρ1 else .bad
  | none => .bad)
theorem ms_raise {X : Cx} {W : WX} {x : Str} {ns : List Str} {e : Expr} {es : List Expr} {ma : MA} {p pos pos2 : Pos} {n : Nat} (F : XFact X.prog X.K X.mg x ns) (hc : X.calm = true) (tk : Takes X W) (hr : Room n X.A) (hn : 1 ≤ n) (ha : MAr X W (e :: es) ma) (hg : Gl X x := by rfl)
    (hdb : (x == ("__debug__" : Str)) = false := by decide) (he : starEach (e :: es) X.env = (false, eval e X.env) :: starEach es X.env := by rfl) (hpl : (backTo pos (starEach es X.env)).any (·.1) = false := by rfl) :
    MSt X W (.Raise (some (.Call (.Name x p) (e :: es) [] pos)) none pos2) (sRaise x ns ma) := by
  obtain ⟨fI, sf, params, body, scope, XI, XT⟩ := F.i
  refine (ps_raise hc tk (pmk_exc F.k XI XT F.no F.sup F.top (hr.mono hn) hg F.gm ha hdb he hpl)).imp fun D σ H ⟨G, ρ, r0, h⟩ => ?_
  refine tMA_then (P := fun G H ρ e => PostS X.K G H σ ρ W D (exS e)) r0 (fun z => z) (fun x ρ1 z cls d G1 H1 g r s q => z cls d σ G1 H1 (Ss.ofE g s) r q) (fun G1 H1 ρ1 e g s z => PostS.after (Ss.ofE g s) z) h fun G1 H1 ρ1 os vs e1 r1 ovs h1 => ?_
  split at h1
  · rename_i ds e
    split at h1
    · rename_i hl
      have rr := vals_reps ovs e
      have hv : vs.length = ns.length := rr.length.symm.trans hl
      refine ⟨hv, fun d hd => ?_⟩
      have gd : G1 d = none := by
        cases q : G1 d with
        | none => rfl
        | some u => rw [r1.sub d u q] at hd; cases hd
      have nown : ¬ Own σ ρ1 d := fun z => by
        obtain ⟨u, e⟩ := r1.alive z
        rw [hd] at e; cases e
      exact h1 _ _ σ G1 _ (Ss.ofE (Go.updL (.inr hd) (no_q hd)) (Sub.refl _)) (r1.updL gd nown (no_q hd)) ⟨rfl, d, vs, rfl, gd, upd_same, hv.symm, rr⟩
    · exact h1.elim
  · exact h1.elim
end L2.MX
end
section
set_option Elab.async false
set_option linter.all false
set_option maxRecDepth 100000
/-! MxV: a lambda as a value. -/
namespace L2.MX
open PySem PySem.Spec PyProof.Rows
variable [tb : TabT]
theorem lamO_nt (f c : Addr) (L : LamT) (cl : List (Str × Addr)) : ∀ ps, LamO f c L cl ≠ .tbl ps := fun ps z => by
  unfold LamO at z
  exact nomatch z
theorem codeO_nt (c : Addr) (q : Str) : ∀ ps, LamX.CodeO c q ≠ .tbl ps := fun ps z => LamX.codeO_ne ps z
theorem lamO_ok {P : Program} {w : World} {H : Hp} {h : Heap} {f c : Addr} {L : LamT} {cl : List (Str × Addr)} {pm ctv : Value} (e : h.get? f = some (PySem.W.kla_obj "<lambda>" L.q L.params L.body L.scope cl pm c ctv)) : ObjOk P w H h f (LamO f c L cl) :=
  ⟨⟨pm, ctv, e⟩, ⟨_, e⟩, fun h1 h2 ⟨pm, ctv, a⟩ k => ⟨pm, ctv, k _ a⟩⟩
def mLam (k : Nat) (cl : List (Str × Addr)) : M := fun ρ => .ok (.pl (.clo k cl)) ρ
section
variable {X : Cx} {W : WX} {pos : Pos} {c P : Addr} {L : LamT}
theorem me_lam (k : Nat) (hk : tb.lams[k]? = some L) (TB : LamX.TabB X.base X.mg c P) (hcode : X.env.code = .ref c) (hm : (P, L.q) ∈ tb.T) (hu : ∀ p ∈ tb.T, p.1 = P → p.2 = L.q) (hq : L.q = X.env.qual ++ "<lambda>") (hdef : defaultsOf L.params X.env = ([], []))
    (hS : LamX.LamS X.env.scope L.scope) : ME X W (.Lambda L.params L.body L.scope pos) (mLam k (cloFrom X.env.cells L.scope.names [])) := by
  constructor
  intro pins s σ H Q I hh
  obtain ⟨G, ρ, r0, h⟩ := hh
  obtain ⟨ps, hP, hT, hA⟩ := r0.tabs _ hm
  have hfree := hS.has I.ok
  have bP : s.heap.BuiltinsAt X.mg P := TB.bm.keeps I.bk
  have hP2 : s.heap.get? P = some { cls := .none, data := .fields ps } := I.hok P _ hP
  have gN : ∀ {a : Addr}, H a = none → G a = none := fun {a} n => by
    cases q : G a with
    | none => rfl
    | some u => rw [r0.sub a u q] at n; cases n
  refine PySem.W.kla_eval hdef ?_
  cases hc : codeAmong pos ps.toList with
  | some cv =>
    obtain ⟨c', rfl, gc⟩ := hA pos cv hc
    refine PySem.W.kla_makeFunctionHit (mg := X.mg) (c := c) (P := P) (ps := ps) (L2.closure_ok hfree) I.ok.glob (I.mod.glob.keeps I.bk) hcode (TB.code.keeps I.bk) hP2 hT hc bP fun ctv h' tk hx hsz => ?_
    have J1 : Inv X pins σ H { s with heap := h', toks := tk } := I.kept hx
    have J2 := J1.laid (a := h'.objs.size) (o := LamO h'.objs.size c' L (cloFrom X.env.cells L.scope.names [])) (t' := tk) (h' := h'.push (PySem.W.kla_obj "<lambda>" L.q L.params L.body L.scope (cloFrom X.env.cells L.scope.names []) ((X.mg "__name__").getD .none) c' ctv))
      (fun b o e => Heap.get?_push_of_some _ e) (Nat.le_refl _) (lamO_ok (Heap.get?_push_size _ rfl))
    have nf : H h'.objs.size = none := J1.hok.fresh (Nat.le_refl _)
    have ng := gN nf
    generalize hf : h'.objs.size = f at J2 nf ng
    have exG : Ex G (upd G f (LamO f c' L (cloFrom X.env.cells L.scope.names []))) := fun b u e => by rw [upd_ne (ne_of_none e ng)]; exact e
    have exH : Ex H (upd H f (LamO f c' L (cloFrom X.env.cells L.scope.names []))) := fun b u e => by rw [upd_ne (ne_of_none e nf)]; exact e
    have sub : Ex (upd G f (LamO f c' L (cloFrom X.env.cells L.scope.names []))) (upd H f (LamO f c' L (cloFrom X.env.cells L.scope.names []))) := fun b u e => by
      by_cases hb : b = f
      · rw [hb, upd_same] at e; rw [hb, upd_same]; exact e
      · rw [upd_ne hb] at e; rw [upd_ne hb]; exact r0.sub b u e
    have g : Go NoI G H (upd G f (LamO f c' L (cloFrom X.env.cells L.scope.names []))) (upd H f (LamO f c' L (cloFrom X.env.cells L.scope.names []))) := ⟨exG, fun b u e _ _ => exH b u e, fun b u e => ⟨u, exH b u e⟩, (fun b u e => by
      by_cases hb : b = f
      · rw [hb]; exact .inr (.inl nf)
      · rw [upd_ne hb] at e; exact .inl e), fun t => t.more exG exH, nt_upd (lamO_nt _ _ _ _)⟩
    have hq2 : PySem.W.kla_obj "<lambda>" (X.env.qual ++ "<lambda>") L.params L.body L.scope (cloFrom X.env.cells L.scope.names []) ((X.mg "__name__").getD .none) c' ctv = PySem.W.kla_obj "<lambda>" L.q L.params L.body L.scope (cloFrom X.env.cells L.scope.names []) ((X.mg "__name__").getD .none) c' ctv := by rw [hq]
    show EP X pins σ Q (.ref f) { s with heap := h'.push (PySem.W.kla_obj "<lambda>" (X.env.qual ++ "<lambda>") L.params L.body L.scope (cloFrom X.env.cells L.scope.names []) ((X.mg "__name__").getD .none) c' ctv), toks := tk }
    rw [hq2]
    exact ⟨.ref f, _, J2, rfl, h _ _ _ (g.weak fun _ z => z.elim) (r0.step g sub) (Sub.refl ρ) ⟨f, c', L, rfl, hk, upd_same, exG _ _ gc⟩⟩
  | none =>
    refine PySem.W.kla_makeFunction (mg := X.mg) (c := c) (P := P) (ps := ps) (L2.closure_ok hfree) I.ok.glob (I.mod.glob.keeps I.bk) hcode (TB.code.keeps I.bk) hP2 hT hc TB.gP bP fun c' ctv h' tk hx hge hlt hrec htb => ?_
    obtain ⟨c2, oc, vs, t, e2, hoc, hd, hv⟩ := hrec
    cases e2
    rw [← hq] at hv
    have nc : H c' = none := I.hok.fresh hge
    have J1 := LamX.inv_table (t' := tk) (more := #[rawInt pos.line, rawInt pos.col, .ref c']) (h' := h') I hP (fun b o hb e => hx b o hb e) htb hge ⟨oc, vs, t, hoc, hd, hv⟩
    have J2 := J1.laid (a := h'.objs.size) (o := LamO h'.objs.size c' L (cloFrom X.env.cells L.scope.names [])) (t' := tk) (h' := h'.push (PySem.W.kla_obj "<lambda>" L.q L.params L.body L.scope (cloFrom X.env.cells L.scope.names []) ((X.mg "__name__").getD .none) c' ctv))
      (fun b o e => Heap.get?_push_of_some _ e) (Nat.le_refl _) (lamO_ok (Heap.get?_push_size _ rfl))
    have hsz : s.heap.objs.size ≤ h'.objs.size := Nat.le_trans hge (Nat.le_of_lt hlt)
    have nf : H h'.objs.size = none := I.hok.fresh hsz
    have fc : h'.objs.size ≠ c' := Nat.ne_of_gt hlt
    have ng := gN nf
    have ngc := gN nc
    have cP : c' ≠ P := fun z => by rw [z, hP] at nc; cases nc
    generalize hf : h'.objs.size = f at J2 nf ng fc
    have fP : f ≠ P := fun z => by rw [z, hP] at nf; cases nf
    let G2 : Hp := upd (upd G c' (LamX.CodeO c' L.q)) f (LamO f c' L (cloFrom X.env.cells L.scope.names []))
    let H2 : Hp := upd (upd (upd H P (.tbl (ps ++ #[rawInt pos.line, rawInt pos.col, .ref c']))) c' (LamX.CodeO c' L.q)) f (LamO f c' L (cloFrom X.env.cells L.scope.names []))
    have at_ : ∀ b, b ≠ f → b ≠ c' → b ≠ P → H2 b = H b := fun b h1 h2 h3 => by
      show upd (upd (upd H P _) c' _) f _ b = _
      rw [upd_ne h1, upd_ne h2, upd_ne h3]
    have exG : Ex G G2 := fun b u e => by
      show upd (upd G c' _) f _ b = _
      rw [upd_ne (ne_of_none e ng), upd_ne (ne_of_none e ngc)]; exact e
    have atf : H2 f = some (LamO f c' L (cloFrom X.env.cells L.scope.names [])) := upd_same
    have atc : H2 c' = some (LamX.CodeO c' L.q) := by
      show upd (upd (upd H P _) c' _) f _ c' = _
      rw [upd_ne (Ne.symm fc), upd_same]
    have atP : H2 P = some (.tbl (ps ++ #[rawInt pos.line, rawInt pos.col, .ref c'])) := by
      show upd (upd (upd H P _) c' _) f _ P = _
      rw [upd_ne (Ne.symm fP), upd_ne (Ne.symm cP), upd_same]
    have gtc : G2 c' = some (LamX.CodeO c' L.q) := by
      show upd (upd G c' _) f _ c' = _
      rw [upd_ne (Ne.symm fc), upd_same]
    have sub : Ex G2 H2 := fun b u e => by
      by_cases hb : b = f
      · rw [hb] at e ⊢
        rw [atf, ← show G2 f = _ from upd_same]; exact e
      · have e1 : upd G c' (LamX.CodeO c' L.q) b = some u := by
          have e : upd (upd G c' _) f _ b = some u := e
          rw [upd_ne hb] at e; exact e
        by_cases hb2 : b = c'
        · rw [hb2] at e ⊢
          rw [atc, ← gtc]; exact e
        · rw [upd_ne hb2] at e1
          have hb3 : b ≠ P := fun z => r0.ntb P ps (by
            have := r0.sub b u e1
            rw [z, hP] at this
            cases this
            rw [← z]; exact e1)
          rw [at_ b hb hb2 hb3]
          exact r0.sub b u e1
    have g : Go NoI G H G2 H2 := {
      ext := exG
      keep := fun b u e _ n => by
        rw [at_ b (ne_of_none e nf) (ne_of_none e nc) (fun z => by rw [z, hP] at e; cases e; exact n ps rfl)]
        exact e
      live := fun b u e => by
        by_cases hb : b = P
        · rw [hb]; exact ⟨_, atP⟩
        · exact ⟨u, by rw [at_ b (ne_of_none e nf) (ne_of_none e nc) hb]; exact e⟩
      new := fun b u e => by
        by_cases hb : b = f
        · rw [hb]; exact .inr (.inl nf)
        · have e : upd (upd G c' _) f _ b = some u := e
          rw [upd_ne hb] at e
          by_cases hb2 : b = c'
          · rw [hb2]; exact .inr (.inl nc)
          · rw [upd_ne hb2] at e; exact .inl e
      tab := fun t p hp => by
        by_cases hb : p.1 = P
        · rw [hu p hp hb, hb]
          have eL : (ps ++ #[rawInt pos.line, rawInt pos.col, .ref c']).toList = ps.toList ++ [rawInt pos.line, rawInt pos.col, .ref c'] := by simp
          refine ⟨_, atP, by rw [eL]; exact PySem.TriplesOk_snoc _ _ _ _ hT, fun p' cv hcv => ?_⟩
          rw [eL] at hcv
          rcases LamX.among_app _ hT hcv with z | z
          · obtain ⟨c0, e1, e2⟩ := hA p' cv z
            exact ⟨c0, e1, exG _ _ e2⟩
          · exact ⟨c', z, gtc⟩
        · obtain ⟨qs, h1, h2, h3⟩ := t p hp
          refine ⟨qs, by rw [at_ p.1 (ne_of_none h1 nf) (ne_of_none h1 nc) hb]; exact h1, h2, fun p' cv hcv => ?_⟩
          obtain ⟨c0, e1, e2⟩ := h3 p' cv hcv
          exact ⟨c0, e1, exG _ _ e2⟩
      nt := fun n => nt_upd (lamO_nt _ _ _ _) (nt_upd (codeO_nt _ _) n) }
    have hq2 : PySem.W.kla_obj "<lambda>" (X.env.qual ++ "<lambda>") L.params L.body L.scope (cloFrom X.env.cells L.scope.names []) ((X.mg "__name__").getD .none) c' ctv = PySem.W.kla_obj "<lambda>" L.q L.params L.body L.scope (cloFrom X.env.cells L.scope.names []) ((X.mg "__name__").getD .none) c' ctv := by rw [hq]
    show EP X pins σ Q (.ref f) { s with heap := h'.push (PySem.W.kla_obj "<lambda>" (X.env.qual ++ "<lambda>") L.params L.body L.scope (cloFrom X.env.cells L.scope.names []) ((X.mg "__name__").getD .none) c' ctv), toks := tk }
    rw [hq2]
    exact ⟨.ref f, _, J2, rfl, h _ _ _ (g.weak fun _ z => z.elim) (r0.step g sub) (Sub.refl ρ) ⟨f, c', L, rfl, hk, upd_same, gtc⟩⟩
end
end L2.MX
end
section
set_option Elab.async false
set_option linter.all false
set_option maxRecDepth 100000
/-! MxY: a lambda called in a def that got it; the laws' «caught». -/
namespace L2.MX
open PySem PySem.Spec PyProof.Rows
variable [tb : TabT]
/-- an exception's wish may ask for the number of slots -/
theorem takes_len {X : Cx} {W : WX} {n : Nat} (hn : X.N.length = n) (t : Takes X W) : Takes X (fun cl dd τ J => τ.length = n → W cl dd τ J) := fun u s' ⟨a, B, sI, pins, σ, H, cls, d, e, I, nb, up, sky, na, os, ag, w⟩ =>
  t u s' ⟨a, B, sI, pins, σ, H, cls, d, e, I, nb, up, sky, na, os, ag, w (I.len.trans hn)⟩
/-- what a def's lambda must have -/
structure LamF (X : Cx) (L : LamT) : Prop where
  sc : LamX.LamS X.env.scope L.scope
  q : L.q = X.env.qual ++ "<lambda>"
  bind : ∀ (q : Str) (cl : List (Str × Addr)) (pm cv ctv : Value), bindArgs (PySem.W.kla_fn "<lambda>" q L.params L.body L.scope cl pm cv ctv) ⟨[], []⟩ = pure []
section
variable {X : Cx} {pins : List (Addr × Obj)} {σ : L2.St} {H : Hp} {s : Shared} {L : LamT}
theorem pe_clo {CXg : CXT} {Eg : XK} {Ng : List Str} {qg : Str} {sg : Scope} {g f c' : Addr} {cdg : Value} {k i : Nat} {a : Str} {pn : List (Addr × Obj)} {xe : Value → Shared → Prop} {W : WX} {E : XK} {tb0 : TE} {p1 p2 : Pos}
    (I : Inv X pins σ H s) (F : LamF X L) (tk : Takes ((cxOf CXg X.prog X.w X.K X.mg X.base Ng qg sg g cdg X.A X.stack s H Eg).tr pn xe) W) (hW : ∀ cl dd τ J, E cl dd J → W cl dd τ J) (hr : Room (k + 1) (X.A.deeper (envOfC qg sg s.heap.objs.size g cdg)))
    (hbody : ∀ (A : Around) (outer : List PySem.Env) (s : Shared) (H : Hp), Room k (A.deeper (LamX.lamEnv X L.scope s.heap.objs.size f c')) → A.guards = X.A.guards → PE (LamX.lamCx X A outer s H E L.scope f c') L.body tb0)
    (hN : Ng[i]? = some a) (hv : Vis sg a) (hd : (a == ("__debug__" : Str)) = false) (hcd : (a == ("__classdict__" : Str)) = false) :
    PE ((cxOf CXg X.prog X.w X.K X.mg X.base Ng qg sg g cdg X.A X.stack s H Eg).tr pn xe) (.Call (.Name a p1) [] [] p2)
      (fun τ J Q => τ[i]? = some (some (.ref f)) ∧ J f = some (LamO f c' L (cloFrom X.env.cells L.scope.names [])) ∧ J c' = some (LamX.CodeO c' L.q) ∧ tb0 σ J Q) := by
  constructor
  intro pZ sZ τ J Q IZ hh
  obtain ⟨h1, h2, h3, h4⟩ := hh
  refine wpAny_Call_Name_kw (thn ((pe_var (pos := p1) (i := i) hN hv hd hcd).run pZ sZ τ J (fun v J1 => v = .ref f ∧ J1 = J) IZ ⟨.ref f, h1, rfl, rfl⟩) ?_)
  rintro u s1 ⟨v, J1, I1, r1, ev, eJ⟩
  subst ev
  subst eJ
  obtain rfl : u = Value.ref f := r1
  obtain ⟨⟨pm, ctv, of1⟩, _, _⟩ := I1.hok f _ h2
  obtain ⟨⟨oc, vs, t, hoc, hdc, hvc⟩, _, _⟩ := I1.hok c' _ h3
  refine PySem.W.callWith_F0 ⟨_, _, _, _, of1⟩ ?_
  have un : Un (frs X.stack) [] H J1 s.heap s1.heap := I1.base
  have run : codeAny (model X.prog X.w) (X.A.deeper (envOfC qg sg s.heap.objs.size g cdg)) (.call (.ref f) ⟨[], []⟩) (CR (L2.CX X.prog X.w) (envOfC qg sg s.heap.objs.size g cdg :: X.stack) X.prog X.w J1 s1 Q E) s1 := by
    refine PySem.W.kla_callFunE hr.depth of1 rfl F.sc.co F.sc.gen rfl ⟨c', oc, vs, t, rfl, hoc, hdc, hvc⟩ ?_
    rw [F.bind]
    refine wpAny_pure (wpAny_newFunctionEnv (fun y hy => (F.sc.own y hy).2) (fun y hy => absurd hy (by simp)) (fun h₁ hns hsb => ⟨I1.nolimit.fresh _ hsb, ?_⟩) F.sc.kind)
    have kp : ∀ b o, s1.heap.get? b = some o → h₁.get? b = some o := fun b o e => hsb.extBut b o (Nat.ne_of_lt (Heap.lt_size e)) (Heap.get?_push_of_some _ e)
    have JJ := LamX.lam_start2 (tk := s1.toks + ([] : List (Str × Value)).length) (f := f) (c' := c') (E := E) I F.sc I1.env0 hr.hd un hns kp
    rw [F.q]
    refine PySem.W.kla_codeExpr (wpAny_mono ((hbody _ _ s1 J1 (hr.deeper _) rfl).run [] _ _ J1 Q JJ h4) ?_ fun e s' hq => hq)
    rintro v s' ⟨w', J', K', rv, q⟩
    exact ⟨w', J', K'.os, K'.bare, K'.base, K'.hok, rv, q⟩
  have ps := passes_call tk hW
  refine wpAny_call (codeAny_mono run ?_)
  rintro (er | fl) s' hq
  · exact ps pZ τ J1 s1 er s' I1 hq
  · cases fl with
    | ret u => exact I1.after hq
    | _ => exact (show False from hq).elim
end
/-! ### the suites of «caught»: return (constants, e.f, repr(e.f)) -/
inductive XA where
  | k (d : D) | fld (f : Str) | rep (f : Str)
def XA.own : XA → Bool
  | .k _ => false
  | _ => true
structure HdM where
  cls : Str
  slot : Option Nat
  tab : List (Str × Bool)
  ats : List XA
  tup : Bool := true
def reprD (d : D) : Option D := (toPy d).bind fun p => if showB p = true then some (.str p.shown) else none
def xaV (x : Exc) : XA → Option D
  | .k d => if scal d = true then some d else none
  | .fld f => (x.fs.zip x.ds).lookup f
  | .rep f => ((x.fs.zip x.ds).lookup f).bind reprD
def xaVs (x : Exc) : List XA → Option (List D)
  | [] => some []
  | a :: as => (xaV x a).bind fun d => (xaVs x as).map fun ds => d :: ds
def catchM : List HdM → Exc → Option D
  | [], _ => none
  | h :: r, x => match h.tab.lookup x.cls with
    | some true => if h.ats.any XA.own = false ∨ x.cls = h.cls then (if h.tup then (xaVs x h.ats).map .tup else some .non) else none
    | some false => catchM r x
    | none => none
/-- an atom's reading: e the exception, of the class at C, in slot i -/
def XA1 (K : PySem.W.Frag) (C : Addr) (i : Option Nat) (e : Addr) (cl : Value) (dd : Option Addr) (τ : St) (J : Hp) : XA → V → Prop
  | .k d, v => scal d = true ∧ v = scV d
  | .fld f, v => cl = .ref C ∧ ∃ (j : Nat) (dx : Addr) (fs : List (Str × V)), i = some j ∧ τ[j]? = some (some (.ref e)) ∧ dd = some dx ∧ J dx = some (.xd fs) ∧ fs.lookup f = some v
  | .rep f, v => cl = .ref C ∧ ∃ (j : Nat) (dx : Addr) (fs : List (Str × V)) (u : V) (p : PyData), i = some j ∧ τ[j]? = some (some (.ref e)) ∧ dd = some dx ∧ J dx = some (.xd fs) ∧ fs.lookup f = some u ∧ Dp K J u p ∧ showB p = true ∧ v = .str p.shown
def XAs (K : PySem.W.Frag) (C : Addr) (i : Option Nat) (e : Addr) (cl : Value) (dd : Option Addr) (τ : St) (J : Hp) : List XA → List V → Prop
  | [], vs => vs = []
  | a :: as, vs => ∃ v r, vs = v :: r ∧ XA1 K C i e cl dd τ J a v ∧ XAs K C i e cl dd τ J as r
def suitM (K : PySem.W.Frag) (h : HdM) : Suit := fun e cl dd D τ J =>
  if h.tup then ∃ vs, XAs K (He.ga K h.cls) h.slot e cl dd τ J h.ats vs ∧ vs.length ≤ sizeLine ∧ ∀ p, J p = none → D.rt (.ref p) (upd J p (.tup vs)) else D.rt .non J
section
variable {X : Cx} {h : HdM}
/-- the arguments of such a tuple -/
def XAr (X : Cx) (C : Addr) (i : Option Nat) (es : List Expr) (ats : List XA) : Prop := ∀ (e : Addr) (oe : Obj) (cl : Value) (dd : Option Addr) (pn : List (Addr × Obj)), Zc cl dd oe → (∃ vs, oe.data = .fields vs) →
  PA (X.suite e ((e, oe) :: pn)) es (fun τ J Q => ∃ vs, XAs X.K C i e cl dd τ J ats vs ∧ Q vs J)
theorem xa_nil {C : Addr} {i : Option Nat} : XAr X C i [] [] := fun e oe cl dd pn _ _ => ⟨fun pos pins s σ H Q I ⟨vs, hv, q⟩ => by
  have hv : vs = [] := hv
  subst hv
  exact pa_nil.run pos pins s σ H Q I q⟩
theorem xa_cons {C : Addr} {i : Option Nat} {ex : Expr} {es : List Expr} {a : XA} {as : List XA} (h1 : ∀ (e : Addr) (oe : Obj) (cl : Value) (dd : Option Addr) (pn : List (Addr × Obj)), Zc cl dd oe → (∃ vs, oe.data = .fields vs) → PE (X.suite e ((e, oe) :: pn)) ex (fun τ J Q => ∃ v, XA1 X.K C i e cl dd τ J a v ∧ Q v J))
    (h2 : XAr X C i es as) (hs : starEach (ex :: es) X.env = (false, eval ex X.env) :: starEach es X.env := by rfl) : XAr X C i (ex :: es) (a :: as) := fun e oe cl dd pn hz hf => ⟨fun pos pins s σ H Q I ⟨vs, hv, q⟩ => by
  obtain ⟨v, r, rfl, x1, x2⟩ := hv
  exact (pa_cons (X := X.suite e ((e, oe) :: pn)) (h1 e oe cl dd pn hz hf) (h2 e oe cl dd pn hz hf) hs).run pos pins s σ H Q I ⟨v, x1, r, x2, q⟩⟩
theorem xa_k {C : Addr} {i : Option Nat} {ex : Expr} {d : D} (hd : scal d = true) (hp : ∀ (Y : Cx), PE Y ex (tC (scV d))) : ∀ (e : Addr) (oe : Obj) (cl : Value) (dd : Option Addr) (pn : List (Addr × Obj)), Zc cl dd oe → (∃ vs, oe.data = .fields vs) → PE (X.suite e ((e, oe) :: pn)) ex (fun τ J Q => ∃ v, XA1 X.K C i e cl dd τ J (.k d) v ∧ Q v J) :=
  fun e oe cl dd pn _ _ => (hp _).imp fun σ H Q ⟨v, ⟨_, ev⟩, q⟩ => by
    subst ev
    exact q
theorem xa_fld {C : Addr} {j : Nat} {n f : Str} {p1 p2 : Pos} (T : XfC X.K C) (hno : PySem.W.findIn X.K (.ref C) f = some none) (hN : X.N[j]? = some n) (hv : Vis X.env.scope n) (hd : (n == ("__debug__" : Str)) = false) (hcd : (n == ("__classdict__" : Str)) = false)
    (hb : attributeBase (.Name n p1) f X.env (eval (.Name n p1) X.env) = eval (.Name n p1) X.env) : ∀ (e : Addr) (oe : Obj) (cl : Value) (dd : Option Addr) (pn : List (Addr × Obj)), Zc cl dd oe → (∃ vs, oe.data = .fields vs) → PE (X.suite e ((e, oe) :: pn)) (.Attribute (.Name n p1) f p2) (fun τ J Q => ∃ v, XA1 X.K C (some j) e cl dd τ J (.fld f) v ∧ Q v J) :=
  fun e oe cl dd pn hz hf => (pe_xf (X := X) (a := e) (oe := oe) (pn := pn) (C := C) T hno hz hf (pe_var (i := j) hN hv hd hcd) hb).imp fun σ H Q ⟨v, ⟨ec, j', dx, fs, ej, h1, h2, h3, h4⟩, q⟩ => by
    cases ej
    exact ⟨.ref e, h1, rfl, ec, dx, fs, v, h2, h3, h4, q⟩
theorem xa_rep {C : Addr} {j : Nat} {n f : Str} {p0 p1 p2 pos : Pos} {kk : Nat} (T : XfC X.K C) (hno : PySem.W.findIn X.K (.ref C) f = some none) (hN : X.N[j]? = some n) (hv : Vis X.env.scope n) (hd : (n == ("__debug__" : Str)) = false) (hcd : (n == ("__classdict__" : Str)) = false)
    (hb : attributeBase (.Name n p1) f X.env (eval (.Name n p1) X.env) = eval (.Name n p1) X.env) (hgd : X.A.guards = some []) (hu : X.A.units + 70 < cLine) (hg : Gl X "repr") (hm : X.mg "repr" = none)
    (he : starEach [.Attribute (.Name n p1) f p2] X.env = (false, eval (.Attribute (.Name n p1) f p2) X.env) :: starEach [] X.env) :
    ∀ (e : Addr) (oe : Obj) (cl : Value) (dd : Option Addr) (pn : List (Addr × Obj)), Zc cl dd oe → (∃ vs, oe.data = .fields vs) → PE (X.suite e ((e, oe) :: pn)) (.Call (.Name "repr" p0) [.Attribute (.Name n p1) f p2] [] pos) (fun τ J Q => ∃ v, XA1 X.K C (some j) e cl dd τ J (.rep f) v ∧ Q v J) :=
  fun e oe cl dd pn hz hf => (pe_callB (X := X.suite e ((e, oe) :: pn)) (call_reprD (X := X.suite e ((e, oe) :: pn)) hgd hu) hg hm (by decide +kernel) (pa_cons (X := X.suite e ((e, oe) :: pn)) (xa_fld T hno hN hv hd hcd hb e oe cl dd pn hz hf) pa_nil he) (he := he) (hpl := by rfl)).imp fun σ H Q ⟨v, ⟨ec, j', dx, fs, u, p, ej, h1, h2, h3, h4, h5, h6, h7⟩, q⟩ => by
    cases ej
    subst h7
    exact ⟨u, ⟨ec, j, dx, fs, rfl, h1, h2, h3, h4⟩, u, p, rfl, h5, h6, q⟩
theorem suit_tup {es : List Expr} {c : Nat} {p1 p2 : Pos} (ht : h.tup = true) (ha : XAr X (He.ga X.K h.cls) h.slot es h.ats) : SuitOk X [.Return (some (.Tuple es c p1)) p2] (suitM X.K h) := fun e oe cl dd pn hz hf => by
  refine (pss_one (ps_ret (pe_tup (ha e oe cl dd pn hz hf)))).imp fun D σ H q => ?_
  unfold suitM at q
  rw [if_pos ht] at q
  obtain ⟨vs, h1, h2, h3⟩ := q
  exact ⟨vs, h1, h2, h3⟩
theorem suit_non {j : Nat} {p1 p2 : Pos} (ht : h.tup = false) : SuitOk X [.Return (some (.Constant .none j p1)) p2] (suitM X.K h) := fun e oe cl dd pn hz hf => by
  refine (pss_one (ps_ret pe_non)).imp fun D σ H q => ?_
  unfold suitM at q
  rw [ht] at q
  exact q
end
/-- of the classes that are known -/
def HdF (K : PySem.W.Frag) (h : HdM) : Prop := ∀ x b, (x, b) ∈ h.tab → PySem.W.exmOne K (.ref (He.ga K x)) (.ref (He.ga K h.cls)) = some b
theorem lookup_in {α : Type} {x : Str} {b : α} : ∀ {l : List (Str × α)}, l.lookup x = some b → (x, b) ∈ l
  | [], h => by cases h
  | (y, c) :: l, h => by
    by_cases e : x = y
    · subst e
      simp only [List.lookup, beq_self_eq_true] at h
      cases h
      exact List.mem_cons_self
    · have e2 : (x == y) = false := by simpa using e
      simp only [List.lookup, e2] at h
      exact List.mem_cons_of_mem _ (lookup_in h)
section
variable {K : PySem.W.Frag} {G H : Hp}
theorem zip_rep : ∀ {fs : List Str} {ds : List D} {vs : List V} {f : Str} {d : D}, Reps K G ds vs → (fs.zip ds).lookup f = some d → ∃ v, (fs.zip vs).lookup f = some v ∧ Rep K G d v
  | [], _, _, _, _, _, h => by cases h
  | _ :: _, [], _, _, _, _, h => by cases h
  | n :: fs, d0 :: ds, _, f, d, ⟨v, r, rfl, hv, hr⟩, h => by
    by_cases e : f = n
    · subst e
      simp only [List.zip_cons_cons, List.lookup, beq_self_eq_true] at h ⊢
      cases h
      exact ⟨v, rfl, hv⟩
    · have e2 : (f == n) = false := by simpa using e
      simp only [List.zip_cons_cons, List.lookup, e2] at h ⊢
      exact zip_rep hr h
theorem xaVs_ok {x : Exc} {C : Addr} {cl : Value} {dd : Option Addr} {i : Option Nat} {e : Addr} {τ : St} (s : Ex G H) (xr : XRep K G H x cl dd) : ∀ {ats : List XA} {ds : List D}, (ats.any XA.own = false ∨ (cl = .ref C ∧ ∃ j, i = some j ∧ τ[j]? = some (some (.ref e)))) → xaVs x ats = some ds → ∃ vs, XAs K C i e cl dd τ H ats vs ∧ Reps K G ds vs
  | [], ds, _, h => by
    cases h
    exact ⟨[], rfl, rfl⟩
  | a :: as, ds, hc, h => by
    have h : (xaV x a).bind (fun d => (xaVs x as).map fun ds => d :: ds) = some ds := h
    cases q : xaV x a with
    | none => rw [q] at h; cases h
    | some d =>
      rw [q] at h
      cases q2 : xaVs x as with
      | none => rw [q2] at h; cases h
      | some ds2 =>
        rw [q2] at h
        cases h
        obtain ⟨rs, hr1, hr2⟩ := xaVs_ok (τ := τ) (i := i) (e := e) (C := C) s xr (hc.imp (fun z => by
          have z : (a.own || as.any XA.own) = false := z
          exact (Bool.or_eq_false_iff.mp z).2) id) q2
        have own : a.own = true → cl = .ref C ∧ ∃ j, i = some j ∧ τ[j]? = some (some (.ref e)) := fun ho => by
          rcases hc with z | z
          · have z : (a.own || as.any XA.own) = false := z
            rw [ho] at z; cases z
          · exact z
        obtain ⟨hcl, dx, xs, hdd, gdx, hdx, hlen, hrep⟩ := xr
        cases a with
        | k d0 =>
          have q : (if scal d0 = true then some d0 else none) = some d := q
          by_cases hs : scal d0 = true
          · rw [if_pos hs] at q
            cases q
            exact ⟨scV d :: rs, ⟨_, _, rfl, ⟨hs, rfl⟩, hr1⟩, _, _, rfl, scV_rep hs, hr2⟩
          · rw [if_neg hs] at q; cases q
        | fld f =>
          obtain ⟨ec, j, ej, et⟩ := own rfl
          obtain ⟨v, hv1, hv2⟩ := zip_rep hrep (show (x.fs.zip x.ds).lookup f = some d from q)
          exact ⟨v :: rs, ⟨_, _, rfl, ⟨ec, j, dx, _, ej, et, hdd, hdx, hv1⟩, hr1⟩, _, _, rfl, hv2, hr2⟩
        | rep f =>
          obtain ⟨ec, j, ej, et⟩ := own rfl
          have q : ((x.fs.zip x.ds).lookup f).bind reprD = some d := q
          cases q3 : (x.fs.zip x.ds).lookup f with
          | none => rw [q3] at q; cases q
          | some d0 =>
            rw [q3] at q
            obtain ⟨v, hv1, hv2⟩ := zip_rep hrep q3
            have q : (toPy d0).bind (fun p => if showB p = true then some (D.str p.shown) else none) = some d := q
            cases q4 : toPy d0 with
            | none => rw [q4] at q; cases q
            | some p =>
              rw [q4] at q
              have q : (if showB p = true then some (D.str p.shown) else none) = some d := q
              by_cases hs : showB p = true
              · rw [if_pos hs] at q
                cases q
                exact ⟨.str p.shown :: rs, ⟨_, _, rfl, ⟨ec, j, dx, _, v, p, ej, et, hdd, hdx, hv1, toPy_ok s d0 hv2 q4, hs, rfl⟩, hr1⟩, _, _, rfl, rfl, hr2⟩
              · rw [if_neg hs] at q; cases q
end
def toL (K : PySem.W.Frag) (h : HdM) : Value × Option Nat × Suit := (.ref (He.ga K h.cls), h.slot, suitM K h)
structure HdOk (K : PySem.W.Frag) (n : Nat) (h : HdM) : Prop where
  f : HdF K h
  own : h.ats.any XA.own = true → h.slot ≠ none
  lt : ∀ i, h.slot = some i → i < n
  len : h.ats.length ≤ 1000
section
variable {K : PySem.W.Frag} {G H : Hp}
theorem XAs.length {C : Addr} {i : Option Nat} {e : Addr} {cl : Value} {dd : Option Addr} {τ : St} {J : Hp} : ∀ {ats : List XA} {vs : List V}, XAs K C i e cl dd τ J ats vs → vs.length = ats.length
  | [], _, h => by
    have h : _ = [] := h
    subst h
    rfl
  | _ :: _, _, ⟨_, _, e, _, r⟩ => by
    subst e
    simp [XAs.length r]
theorem catch_ok {x : Exc} {cl : Value} {dd : Option Addr} {Q : VK} {Wo : WX} {DE : Ends} {d : D} {n : Nat} (s : Ex G H) (xr : XRep K G H x cl dd) (hD : DE.rt = Q) (hQ : ∀ v G1 H1, Go NoI G H G1 H1 → Ex G1 H1 → RVok K G1 H H1 (.pl d) v → Q v H1) :
    ∀ {hs : List HdM}, (∀ h ∈ hs, HdOk K n h) → catchM hs x = some d → ∀ τ : St, τ.length = n → wMA K Wo DE (hs.map (toL K)) cl dd τ H
  | [], _, h, _, _ => by cases h
  | h :: hs, hok, hc, τ, hτ => by
    have ok := hok h List.mem_cons_self
    obtain ⟨hcl, _⟩ := id xr
    have hc : (match h.tab.lookup x.cls with
      | some true => if h.ats.any XA.own = false ∨ x.cls = h.cls then (if h.tup then (xaVs x h.ats).map D.tup else some .non) else none
      | some false => catchM hs x
      | none => none) = some d := hc
    -- the suite's reading
    have yes : ∀ (e : Addr) (τ' : St) (DF : Ends), DF.rt = Q → (∀ i, h.slot = some i → τ'[i]? = some (some (.ref e))) → h.tab.lookup x.cls = some true → suitM K h e cl dd DF τ' H := fun e τ' DF hD' hsl hl => by
      rw [hl] at hc
      have hc : (if h.ats.any XA.own = false ∨ x.cls = h.cls then (if h.tup then (xaVs x h.ats).map D.tup else some .non) else none) = some d := hc
      by_cases hcc : h.ats.any XA.own = false ∨ x.cls = h.cls
      · rw [if_pos hcc] at hc
        unfold suitM
        by_cases ht : h.tup = true
        · rw [if_pos ht] at hc ⊢
          obtain ⟨ds, hds, rfl⟩ := Option.map_eq_some_iff.mp hc
          have own : h.ats.any XA.own = false ∨ (cl = .ref (He.ga K h.cls) ∧ ∃ j, h.slot = some j ∧ τ'[j]? = some (some (.ref e))) := by
            cases ho : h.ats.any XA.own with
            | false => exact .inl rfl
            | true =>
              right
              rcases hcc with z | z
              · rw [ho] at z; cases z
              · refine ⟨by rw [← z]; exact hcl, ?_⟩
                cases hsl2 : h.slot with
                | none => exact absurd hsl2 (ok.own ho)
                | some j => exact ⟨j, rfl, hsl j hsl2⟩
          obtain ⟨vs, h1, h2⟩ := xaVs_ok (C := He.ga K h.cls) (i := h.slot) (e := e) (τ := τ') s xr own hds
          refine ⟨vs, h1, by rw [h1.length]; exact small_line ok.len, fun p hp => ?_⟩
          rw [hD']
          exact new_tup s h2 hp hQ
        · rw [if_neg ht] at hc
          cases hc
          have ht2 : h.tup = false := by simpa using ht
          rw [ht2]
          show DF.rt .non H
          rw [hD']
          exact same_end (d := .non) s rfl hQ
      · rw [if_neg hcc] at hc; cases hc
    have main : ∀ b, h.tab.lookup x.cls = some b → PySem.W.exmOne K cl (.ref (He.ga K h.cls)) = some b := fun b hb => by
      rw [hcl]
      exact ok.f _ _ (lookup_in hb)
    have rest : h.tab.lookup x.cls = some false → wMA K Wo DE (hs.map (toL K)) cl dd τ H := fun hl => by
      rw [hl] at hc
      exact catch_ok s xr hD hQ (fun h' hh => hok h' (List.mem_cons_of_mem _ hh)) hc τ hτ
    show wMA K Wo DE ((.ref (He.ga K h.cls), h.slot, suitM K h) :: hs.map (toL K)) cl dd τ H
    cases hl : h.tab.lookup x.cls with
    | none => rw [hl] at hc; cases hc
    | some b =>
      cases hsl : h.slot with
      | none =>
        refine ⟨b, main b hl, fun hb e _ => ?_, fun hb => rest (by rw [hl, hb])⟩
        exact yes e τ DE hD (fun i hi => by rw [hsl] at hi; cases hi) (by rw [hl, hb])
      | some i =>
        refine ⟨b, main b hl, fun hb e _ => ?_, fun hb => rest (by rw [hl, hb])⟩
        refine yes e (τ.set i (some (.ref e))) (goneE i DE) hD (fun i' hi' => ?_) (by rw [hl, hb])
        rw [hsl] at hi'
        cases hi'
        exact List.getElem?_set_self (by rw [hτ]; exact ok.lt i hsl)
end
/-! ### caught(call) -/
def caughtR (ok : Str) (hs : List HdM) : ER RV → ER RV
  | .bad => .bad
  | .ok r ρ => .ok (.pl (.tup [.str ok, r.d])) ρ
  | .ex x ρ => match catchM hs x with
    | some d => .ok (.pl d) ρ
    | none => .bad
abbrev LMs : Type := Nat → Option (M × List (Str × Addr))
def mCaught (ok : Str) (hs : List HdM) (LM : LMs) (ma : MO) : M := fun ρ => bindM (ma ρ) fun o ρ1 => match o.get ρ1 with
  | some (.clo k cl) => (match LM k with
    | some (m, cl0) => if cl = cl0 then caughtR ok hs (m ρ1) else .bad
    | none => .bad)
  | _ => .bad
section
variable {X : Cx} {W : WX} {x a ok : Str} {Ng : List Str} {params : Arguments} {scope : Scope} {h0 : ExceptHandler} {hdl : List ExceptHandler} {j c : Nat} {q1 q2 q3 q4 q5 q6 p pos : Pos} {hs : List HdM} {LM : LMs} {e : Expr} {ma : MO} {kk : Nat}
theorem me_caught (FD : ∃ fd, FunD X.K x x params [.Try [.Return (some (.Tuple [.Constant (.str ok) j q1, .Call (.Name a q2) [] [] q3] c q4)) q5] (h0 :: hdl) [] [] q6] scope [] [] (He.ga X.K x) fd) (S : FnScope Ng [a] scope) (hgm : X.mg x = some (.ref (He.ga X.K x)))
    (hbind : ∀ (kV doc pm : Value) (an : Option Addr) (cdv ct : Value) (us : List Value), us.length = [a].length → bindArgs (PySem.W.fnOf x x params [.Try [.Return (some (.Tuple [.Constant (.str ok) j q1, .Call (.Name a q2) [] [] q3] c q4)) q5] (h0 :: hdl) [] [] q6] scope .none kV doc pm an cdv ct) ⟨us, []⟩ = pure ([a].zip us))
    (hN0 : Ng[0]? = some a) (hv : Vis scope a) (hd : (a == ("__debug__" : Str)) = false) (hcd : (a == ("__classdict__" : Str)) = false)
    (HDS : ∀ (cdv : Value) (s : Shared) (H : Hp), HdsAs (cxOf C8.CX0 X.prog X.w X.K X.mg X.base Ng x scope (He.ga X.K x) cdv X.A X.stack s H C8.E0).nox (h0 :: hdl) (hs.map (toL X.K))) (HF : ∀ h ∈ hs, HdOk X.K Ng.length h)
    (hLM : ∀ k m cl L, LM k = some (m, cl) → tb.lams[k]? = some L → LamF X L ∧ cl = cloFrom X.env.cells L.scope.names [] ∧ ∀ (A : Around) (outer : List PySem.Env) (s : Shared) (H : Hp) (E : XK) (f c' : Addr) (z : Nat), Room kk (A.deeper (LamX.lamEnv X L.scope z f c')) → A.guards = some [] →
      ME (LamX.lamCx X A outer s H E L.scope f c') (fun cl dd _ J => E cl dd J) L.body m)
    (hr : Room (kk + 2) X.A) (hgd : X.A.guards = some []) (ha : MOp X W e ma) (hg : Gl X x := by rfl) (hdb : (x == ("__debug__" : Str)) = false := by decide) (he : starEach [e] X.env = (false, eval e X.env) :: starEach [] X.env := by rfl) :
    ME X W (.Call (.Name x p) [e] [] pos) (mCaught ok hs LM ma) := by
  constructor
  intro pins s σ H Q I hh
  obtain ⟨G, ρ, r0, h⟩ := hh
  obtain ⟨fd, FD⟩ := FD
  have fb := FD.bindsN (ps := [a]) hbind
  obtain ⟨oc, od, dV, kV, doc, pm, an, cdv, ct, osl, rfl, lk, hcdI, _, _⟩ := FD.ex
  refine wpAny_Call_Name_kw (ld_glob I hg hgm ?_ hdb)
  have hargs : tMO X.K W ma σ H (fun v H1 => ∃ G1 ρ1 o, Rel X.K G1 H1 σ ρ1 ∧ OpdOk X.K G1 σ o v ∧ PostE X.K G1 H1 σ ρ1 W Q (match o.get ρ1 with
      | some (.clo k cl) => (match LM k with
        | some (m, cl0) => if cl = cl0 then caughtR ok hs (m ρ1) else .bad
        | none => .bad)
      | _ => .bad)) := tMO_thenE (Q := Q) r0 h fun G1 H1 ρ1 o v e1 r1 ov h1 => ⟨G1, ρ1, o, r1, ov, h1⟩
  refine PySem.W.callWith_K (h₀ := X.base) I.ok.mod.kin FD.kp (thn ((pa_cons ha pa_nil he).run pos pins s σ H (fun vs H1 => ∃ v, vs = [v] ∧ ∃ G1 ρ1 o, Rel X.K G1 H1 σ ρ1 ∧ OpdOk X.K G1 σ o v ∧ PostE X.K G1 H1 σ ρ1 W Q (match o.get ρ1 with
      | some (.clo k cl) => (match LM k with
        | some (m, cl0) => if cl = cl0 then caughtR ok hs (m ρ1) else .bad
        | none => .bad)
      | _ => .bad)) I ?_) ?_) he (by rfl)
  · obtain ⟨G', ρ', r', h'⟩ := hargs
    refine ⟨G', ρ', r', ?_⟩
    cases em : ma ρ' with
    | bad => rw [em] at h'; exact h'
    | ex x' ρ1 => rw [em] at h'; exact h'
    | ok o ρ1 =>
      rw [em] at h'
      intro v G1 H1 g r1 s1 q
      exact ⟨v, rfl, h' v G1 H1 g r1 s1 q⟩
  rintro us s1 ⟨vs, H1, I1, rv, v, rfl, G1, ρ1, o, r1, ov, h1⟩
  refine ⟨I1.kIn, ?_⟩
  obtain ⟨u, rfl, ru⟩ := vals1 rv
  show wpAny _ _ (call (.ref (He.ga X.K x)) [u]) _ _ _
  -- the value is a lambda
  split at h1
  case h_2 => exact h1.elim
  rename_i k cl ed
  split at h1
  case h_2 => exact h1.elim
  rename_i m cl0 eLM
  by_cases ecl : cl = cl0
  case neg =>
    rw [if_neg ecl] at h1
    exact h1.elim
  rw [if_pos ecl] at h1
  subst ecl
  have rep : Rep2 X.K G1 H1 (.clo k cl) v := ov.look r1 ed
  obtain ⟨f, c', L, rfl, hkL, hGf, hGc⟩ := (show Rep X.K G1 (.clo k cl) v from rep)
  obtain rfl : u = Value.ref f := ru
  obtain ⟨LF, ecl, hbody⟩ := hLM k m cl L eLM hkL
  have hHf := r1.sub _ _ hGf
  have hHc := r1.sub _ _ hGc
  have W0 : WX := fun _ _ _ _ => False
  have run : codeAny (model X.prog X.w) X.A (.call (.ref (He.ga X.K x)) ⟨[.ref f], []⟩) (CR C8.CX0 X.stack X.prog X.w H1 s1 Q C8.E0) s1 := by
    refine LamX.run_ofS (N := Ng) (ps := [a]) (us := [.ref f]) (vs := [.ref f]) lk hcdI S hr I1.env0 (fb s1 [.ref f] I1.kIn rfl) (.cons rfl .nil) rfl fun hr2 => ?_
    refine ⟨_, (pss_one (ps_try_ma (X := (cxOf C8.CX0 X.prog X.w X.K X.mg X.base Ng x scope (He.ga X.K x) cdv X.A X.stack s1 H1 C8.E0).nox) (Wo := fun _ _ _ _ => False)
      (tb := fun V D τ J => ∃ Ech : XK, (∀ cl dd τ' J', τ'.length = Ng.length → Ech cl dd J' → V cl dd τ' J') ∧ τ[0]? = some (some (.ref f)) ∧ J f = some (LamO f c' L (cloFrom X.env.cells L.scope.names [])) ∧ J c' = some (LamX.CodeO c' L.q) ∧
        tM X.K (fun cl dd _ J => Ech cl dd J) m σ J (fun v J => ∀ p, J p = none → D.rt (.ref p) (upd J p (.tup [.str ok, v]))))
      rfl rfl S.nd takes0 (fun V pn xe tk _ => ?_) (HDS cdv s1 H1))).nox, ?_⟩
    · constructor
      intro pins2 s2 τ J D I2 hh2
      obtain ⟨Ech, hV, g0, g1, g2, g3⟩ := hh2
      have act := pe_clo (CXg := C8.CX0) (Eg := C8.E0) (p1 := q2) (p2 := q3) (i := 0) (a := a) (k := kk) (tb0 := tM X.K (fun cl dd _ J => Ech cl dd J) m) (L := L) (f := f) (c' := c') I1 LF (takes_len (n := Ng.length) rfl tk) (E := Ech) (fun cl dd τ' J' he hl => hV cl dd τ' J' hl he) hr2
        (fun A outer s H hr3 hA => hbody A outer s H Ech f c' _ hr3 (hA.trans hgd)) hN0 hv hd hcd
      exact (pss_one (ps_ret (pos := q5) (pe_tup (pos := q4) (x1 := c) (pa_cons (pe_str (j := j) (pos := q1)) (pa_cons act pa_nil))))).run pins2 s2 τ J D I2 ⟨g0, g1, g2, by
        obtain ⟨G', ρ', r', h'⟩ := g3
        refine ⟨G', ρ', r', ?_⟩
        cases em : m ρ' with
        | bad => rw [em] at h'; exact h'
        | ex x' ρ2 => rw [em] at h'; exact h'
        | ok rv2 ρ2 =>
          rw [em] at h'
          intro v G2 H2 g r2 s2 q
          exact ⟨by show 2 ≤ sizeLine; rw [sizeLine_eq]; decide, h' v G2 H2 g r2 s2 q⟩⟩
    · refine ⟨fun cl dd J => ∀ τ : St, τ.length = Ng.length → wMA X.K (fun _ _ _ _ => False) { nx := fun _ H' => Q .non H', rt := Q } (hs.map (toL X.K)) cl dd τ J, fun cl dd τ' J' hl he => he τ' hl, rfl, by rw [← ecl]; exact hHf, hHc, G1, ρ1, r1, ?_⟩
      cases em : m ρ1 with
      | bad => rw [em] at h1; exact h1
      | ok rv2 ρ2 =>
        rw [em] at h1
        intro v G2 H2 g r2 s2 q p hp
        obtain ⟨G3, g3, r3, _, rep3⟩ := publish r1 g r2 s2 q
        have h1 : PostE X.K G1 H1 σ ρ1 W Q (.ok (.pl (.tup [.str ok, rv2.d])) ρ2) := h1
        have h2 := PostE.after r1 g3 s2 h1
        exact new_tup (ds := [.str ok, rv2.d]) r3.sub ⟨_, _, rfl, rfl, _, _, rfl, rep3, rfl⟩ hp fun v G4 H4 g4 s4 q4 => PostE.done r3 h2 g4 s4 q4
      | ex x' ρ2 =>
        rw [em] at h1
        intro cl dd G2 H2 g r2 s2 xr τ hτ
        have h1 : PostE X.K G1 H1 σ ρ1 W Q (match catchM hs x' with
          | some d => .ok (.pl d) ρ2
          | none => .bad) := h1
        cases ec : catchM hs x' with
        | none => rw [ec] at h1; exact h1.elim
        | some d =>
          rw [ec] at h1
          have h2 := PostE.after r1 g s2 h1
          exact catch_ok (n := Ng.length) r2.sub xr rfl (fun v G4 H4 g4 s4 q4 => PostE.done r2 h2 g4 s4 q4) HF ec τ hτ
  refine wpAny_call (codeAny_mono run ?_)
  rintro (er | fl) s' hq
  · exact (show False from hq).elim
  · cases fl with
    | ret u => exact I1.after hq
    | _ => exact (show False from hq).elim
end
end L2.MX
end
section
set_option Elab.async false
set_option linter.all false
set_option maxRecDepth 100000
/-! MxZ: the end of a law with lambdas. -/
namespace L2.MX
open PySem PySem.Spec PyProof.Rows
section
variable [tb : TabT]
/-- a promise for whatever cells -/
def spMC (K : PySem.W.Frag) (fm : List (Str × Addr) → MF) : Sp := fun vs H Q E => ∀ cl, spM K (fm cl) vs H Q E
variable {P : Program} {w : World} {K : PySem.W.Frag} {mg : Str → Option Value} {base : Heap}
theorem def_okC {x : Str} {params : Arguments} {body : List Stmt} {scope : Scope} {dvs : List V} {kws : List (Str × V)} {fd : FuncData} {N ps : List Str} {k n : Nat} (l : Nat) {m : List (Str × Addr) → MS} (F : FunD K x x params body scope dvs kws (He.ga K x) fd) (S : FnScope N ps scope) (hn : ps.length = n) (hN : N.length = n + l)
    (hbody : ∀ (A : Around) (outer : List PySem.Env) (s : Shared) (H : Hp) (E : XK), Room k (A.deeper (envOfC x scope s.heap.objs.size (He.ga K x) (.ref (He.codeOf K (x, none))))) → A.guards = some [] →
      MSs (cxOf (L2.CX P w) P w K mg base N x scope (He.ga K x) (.ref (He.codeOf K (x, none))) A outer s H E) (fun cls d _ H => E cls d H) body (m (envOfC x scope s.heap.objs.size (He.ga K x) (.ref (He.codeOf K (x, none)))).cells)) :
    FnG P w K mg base (L2.CX P w) (k + 1) (He.ga K x) fd ps (spMC K fun cl => mDef n l (m cl)) := by
  have hlen : ∀ vs H Q E, spMC K (fun cl => mDef n l (m cl)) vs H Q E → vs.length = ps.length := fun vs H Q E hh => by
    obtain ⟨G, ρ, r, h⟩ := hh []
    have h : PostF K G H (vs.map some) ρ Q E (if ρ.length = n then endF n (m [] (ρ ++ List.replicate l .un)) else .bad) := h
    split at h
    · rename_i hρ
      rw [hn, ← hρ, ← r.len]; simp
    · exact h.elim
  obtain ⟨oc, od, dV, kV, doc, pm, an, cdv, ct, osl, rfl, lk, hcd, _, _⟩ := F.ex
  obtain ⟨c, rfl⟩ := He.codeIn_ref hcd
  have ec : He.codeOf K (x, none) = c := He.codeOf_eq lk rfl
  subst ec
  exact ⟨hlen, fun A outer s H args us vs Q E hr hg e0 hb r h => LamX.run_ofS lk hcd S hr e0 hb r (hlen vs H Q E h) fun hr' => ⟨_, hbody A outer s H E hr' hg, pure_def hN (h _)⟩⟩
end
/-- what a call may let out, in whichever world -/
def CXany (P : Program) : CXT := fun outer H s E e s' => ∃ w, L2.CX P w outer H s E e s'
theorem CXany_no {P : Program} : ∀ (H : Hp) (s : Shared) (e : Value) (s' : Shared), CXany P [] H s (fun _ _ _ => False) e s' → False := fun _ _ _ _ ⟨_, _, _, _, _, _, _, _, _, _, _, _, _, z⟩ => z
/-- the law's call, by a promise that wants no guard under way -/
theorem law_callG {P : Program} {w : World} {K : PySem.W.Frag} {mg mb : Str → Option Value} {k : Nat} {fa a : Addr} {cs : List (Addr × Addr)} {fd : FuncData} {x : Str} {sp : Sp} {z0 : Shared} {vs : List Value} {ns : List Int}
    (KX : K.In z0.heap) (hns : z0.heap.Ns mainGlobals mg) (hb : z0.heap.Ns builtinsNs mb) (hbb : ∀ x : Str, x ≠ "__name__" → mb x = bootBuiltins x) (hlim : z0.heap.NoLimit) (hg : z0.gens = #[])
    (hT : ∀ p ∈ cs, z0.heap.get? p.2 = some { cls := .none, data := .fields #[] }) (nT : ∀ p ∈ cs, K.lookup p.2 = none) (C : ∀ p ∈ cs, PySem.W.CodeHd z0.heap p.1 p.2)
    (hbm : ∃ (bm : Addr) (ob : Obj), mg "__builtins__" = some (.ref bm) ∧ bm ≠ builtinsNs ∧ z0.heap.get? bm = some ob ∧ ob.cls = .type "module" ∧ ob.dict = some builtinsNs ∧ ob.data = .plain)
    (ha : z0.heap.get? a = some { cls := .type "list", data := .seq vs.toArray }) (hi : IntsAre vs ns) (hl : ns.length ≤ sizeLine) (hr : Room k callerA)
    (F : ∀ base : Heap, K.In base → base.Ns mainGlobals mg → (∀ p ∈ cs, LamX.TabB base mg p.1 p.2) → FnG P w K mg base (L2.CX P w) k fa fd [x] sp) (hbind : ∀ (s : Shared) (u : Value), BindsTo s fd ⟨[u], []⟩ [(x, u)])
    (hsp : ∀ H : Hp, (∀ p ∈ cs, H p.2 = some (.tbl #[])) → (∀ b ps, H b = some (.tbl ps) → ps = #[]) → SqL K H a (ns.map V.int) → sp [.ref a] H (fun v _ => v = .bl true) fun _ _ _ => False) :
    codeAny (model P w) callerA (.call (.ref fa) ⟨[.ref a], []⟩) (fun r s' => r = .ok (.ret (.bool true)) ∧ OldK z0.heap s'.heap ∧ s'.os = z0.os ∧ AllBare s'.gens) z0 := by
  have rv := vals_ints hi
  have lenV := hi.length
  let ts : List Addr := cs.map (·.2)
  have isT : ∀ b : Addr, b ∈ ts → z0.heap.get? b = some { cls := .none, data := .fields #[] } := fun b hb => by
    obtain ⟨p, hp, rfl⟩ := List.mem_map.mp hb
    exact hT p hp
  have memT : ∀ p ∈ cs, p.2 ∈ ts := fun p hp => List.mem_map.mpr ⟨p, hp, rfl⟩
  have aT : a ∉ ts := fun z => by
    have q := isT a z
    rw [ha] at q
    have z' : Data.seq vs.toArray _ = Data.fields #[] := congrArg Obj.data (Option.some.inj q)
    exact nomatch z'
  have key : ∀ J : Hp, (∀ p ∈ cs, J p.2 = some (.tbl #[])) → (∀ b ps, J b = some (.tbl ps) → ps = #[]) → (∀ b, J b = none ∨ b ∈ ts ∨ ∃ o xs, J b = some (.frz o (.lst xs))) → SqL K J a (ns.map V.int) → HOk P w J z0.heap → (∀ b, J b ≠ none → b = a ∨ b ∈ ts) → (J a ≠ none → K.lookup a = none) →
      codeAny (model P w) callerA (.call (.ref fa) ⟨[.ref a], []⟩) (fun r s' => r = .ok (.ret (.bool true)) ∧ OldK z0.heap s'.heap ∧ s'.os = z0.os ∧ AllBare s'.gens) z0 := by
    intro J jT jE jO jS jok jA jK
    let B : Heap := hidT z0.heap J
    have toB : ∀ {b : Addr} {o : Obj}, z0.heap.get? b = some o → J b = none → B.get? b = some o := fun e n => hidT_get e n
    have out : ∀ {b : Addr} {o : Obj}, z0.heap.get? b = some o → (∀ vs n, o.data ≠ .seq vs n) → o.data ≠ .fields #[] → J b = none := fun {b o} e n1 n2 => by
      cases q : J b with
      | none => rfl
      | some u =>
        exfalso
        rcases jA b (by rw [q]; simp) with z | z
        · subst z
          rw [ha] at e
          cases e
          exact n1 _ _ rfl
        · rw [isT b z] at e
          cases e
          exact n2 rfl
    have nsB : ∀ {b : Addr} {m : Str → Option Value}, z0.heap.Ns b m → B.Ns b m := fun {b m} hh => by
      obtain ⟨o, es, ep, e, d, r⟩ := hh
      refine ⟨o, es, ep, toB e (out e (fun vs n z => ?_) fun z => ?_), d, r⟩
      · rw [d] at z
        exact nomatch z
      · rw [d] at z
        exact nomatch z
    have KB : K.In B := fun b o e => toB (KX b o e) (by
      cases q : J b with
      | none => rfl
      | some u =>
        exfalso
        rcases jA b (by rw [q]; simp) with z | z
        · subst z
          rw [jK (by rw [q]; simp)] at e
          cases e
        · obtain ⟨p, hp, rfl⟩ := List.mem_map.mp z
          rw [nT p hp] at e
          cases e)
    have modB : L2.Mod K mg B := ⟨KB, nsB hns, ⟨mb, nsB hb, hbb⟩, by
      obtain ⟨mc, h1, h2⟩ := hlim
      exact ⟨mc, nsB h1, h2⟩⟩
    have tabB : ∀ p ∈ cs, LamX.TabB B mg p.1 p.2 := fun p hp => by
      have noG : mainGlobals ≠ p.2 := fun z => by
        obtain ⟨o, es, ep, e, d, _⟩ := hns
        rw [z, hT p hp] at e
        cases e
        exact nomatch d
      constructor
      · obtain ⟨o, us, file, tf, flags, tg, inF, text, tt, e1, d1, d2, d3, d4, d5, d6, d7, d8, hne⟩ := C p hp
        refine ⟨o, us, file, tf, flags, tg, inF, text, tt, toB e1 (out e1 (fun vs n z => ?_) fun z => ?_), d1, d2, d3, d4, d5, d6, d7, d8, hne⟩
        · rw [d2] at z
          exact nomatch z
        · rw [d2] at z
          cases z
          simp at d3
      · obtain ⟨bm, ob, b1, b2, b3, b4, b5, b6⟩ := hbm
        refine ⟨bm, ob, b1, b2, fun q => ?_, fun q => ?_, toB b3 (out b3 (fun vs n z => ?_) fun z => ?_), b4, b5, b6⟩
        · obtain ⟨o, es, ep, e, d, _⟩ := hns
          rw [q, e] at b3
          cases b3
          rw [d] at b6
          exact nomatch b6
        · rw [q, hT p hp] at b3
          cases b3
          exact nomatch b6
        · rw [b6] at z
          exact nomatch z
        · rw [b6] at z
          exact nomatch z
      · exact noG
    have env : Env0 P w K mg B callerA [] z0 J := ⟨rfl, modB, fun b o e => of_hidT e, Nat.le_of_eq (hidT_size _ _), trivial, fun b hb => absurd (show b ∈ ([] : List Addr) from hb) (by simp), jok, .of_eq hg⟩
    have run := (F B KB (nsB hns) tabB).run callerA [] z0 J ⟨[.ref a], []⟩ [.ref a] [.ref a] _ _ hr rfl env (hbind z0 (.ref a)) (.cons rfl .nil) (hsp J jT jE jS)
    refine codeAny_mono run ?_
    rintro (er | fl) s' hh
    · exact (CXany_no J z0 er s' ⟨w, hh⟩).elim
    cases fl with
    | next => exact (show False from hh).elim
    | brk => exact (show False from hh).elim
    | cont => exact (show False from hh).elim
    | ret u =>
      obtain ⟨v, J', eos, bare, un, jok', rv', q⟩ := hh
      obtain rfl : v = .bl true := q
      obtain rfl : u = Value.bool true := rv'
      have stay : ∀ b o, b ∉ ts → z0.heap.get? b = some o → s'.heap.get? b = some o := fun b o nb e => by
        rcases jO b with z | z | ⟨ob, xs, z⟩
        · exact un.keep b o e z (fun y => absurd (show b ∈ ([] : List Addr) from y) (by simp)) (by simp)
        · exact absurd z nb
        · obtain ⟨e1, _⟩ := jok b _ z
          obtain ⟨e2, _⟩ := jok' b _ (un.frzs b ob _ z)
          rw [e] at e1; cases e1
          exact e2
      have grown : ∀ p ∈ cs, ∃ more : Array Value, s'.heap.get? p.2 = some { cls := .none, data := .fields more } := fun p hp => by
        obtain ⟨more, z⟩ := un.tbls p.2 #[] (jT p hp)
        exact ⟨_, jok' p.2 _ z⟩
      refine ⟨rfl, ⟨fun b o e => ?_, fun b o e => ?_⟩, eos, bare⟩
      · by_cases hb : b ∈ ts
        · obtain ⟨p, hp, rfl⟩ := List.mem_map.mp hb
          obtain ⟨more, hm⟩ := grown p hp
          have e : z0.heap.get? p.2 = some o := e
          rw [hT p hp] at e
          cases e
          exact .inr (.inl ⟨((C p hp).tab (hT p hp)).isCodeTable, rfl, #[], more, rfl, by rw [Array.empty_append]; exact hm⟩)
        · exact .inl (stay b o hb e)
      · by_cases hb : b ∈ ts
        · obtain ⟨p, hp, rfl⟩ := List.mem_map.mp hb
          obtain ⟨more, hm⟩ := grown p hp
          exact ⟨_, hm⟩
        · exact ⟨o, stay b o hb e⟩
  -- the script: written, or locked
  let T0 : Hp := fun b => if b ∈ ts then some (.tbl #[]) else none
  have t0 : ∀ b ps, T0 b = some (.tbl ps) → ps = #[] := fun b ps e => by
    by_cases hb : b ∈ ts
    · have z := (if_pos hb).symm.trans e
      cases z
      rfl
    · have z := (if_neg hb).symm.trans e
      cases z
  cases hk : K.lookup a with
  | some o =>
    have e := KX a o hk
    rw [ha] at e
    cases e
    refine key T0 (fun p hp => if_pos (memT p hp)) t0 (fun b => ?_) (.inr ⟨_, vs.toArray, _, hk, rfl, rfl, rfl, by rw [List.size_toArray, lenV]; exact hl, by simpa using rv⟩) (fun b u z => ?_) (fun b z => ?_) fun z => absurd (show T0 a = none from if_neg aT) z
    · by_cases hb : b ∈ ts
      · exact .inr (.inl hb)
      · exact .inl (if_neg hb)
    · by_cases hb : b ∈ ts
      · have y := (if_pos hb).symm.trans z
        cases y
        exact isT b hb
      · have y := (if_neg hb).symm.trans z
        cases y
    · by_cases hb : b ∈ ts
      · exact .inr hb
      · exact absurd (if_neg hb) z
  | none =>
    let T1 : Hp := fun b => if b = a then some (.frz { cls := .type "list", data := .seq vs.toArray } (.lst (ns.map V.int))) else T0 b
    have at1 : ∀ b, b ≠ a → T1 b = T0 b := fun b h => if_neg h
    refine key T1 (fun p hp => (at1 p.2 fun z => aT (by rw [← z]; exact memT p hp)).trans (if_pos (memT p hp))) (fun b ps e => ?_) (fun b => ?_) (.inl (.inr ⟨{ cls := .type "list", data := .seq vs.toArray }, if_pos rfl⟩)) (fun b u z => ?_) (fun b z => ?_) fun _ => hk
    · by_cases hb : b = a
      · have y := (if_pos hb).symm.trans e
        cases y
      · exact t0 b ps ((at1 b hb).symm.trans e)
    · by_cases hb : b = a
      · exact .inr (.inr ⟨_, _, if_pos hb⟩)
      · rw [at1 b hb]
        by_cases hb2 : b ∈ ts
        · exact .inr (.inl hb2)
        · exact .inl (if_neg hb2)
    · by_cases hb : b = a
      · have y := (if_pos hb).symm.trans z
        cases y
        subst hb
        exact ⟨ha, by rw [List.length_map]; exact hl, vs, _, rv, ha⟩
      · rw [at1 b hb] at z
        by_cases hb2 : b ∈ ts
        · have y := (if_pos hb2).symm.trans z
          cases y
          exact isT b hb2
        · have y := (if_neg hb2).symm.trans z
          cases y
    · by_cases hb : b = a
      · exact .inl hb
      · rw [at1 b hb] at z
        by_cases hb2 : b ∈ ts
        · exact .inr hb2
        · exact absurd (if_neg hb2) z
end L2.MX
end
section
set_option Elab.async false
set_option linter.all false
set_option maxRecDepth 100000
/-! MxNe: != of an instance by object.__ne__ over its own __eq__, whatever stands on the right. -/
namespace PySem.W
open PySem PySem.Calls PySem.Spec PyProof.Rows
section
variable {prog : Program} {w : World} {A : Around} {E : Value → Shared → Prop} {s : Shared} {K : Frag} {x C L f : Addr} {h₀ : Heap} {m : Str → Option Value} {ox : Obj} {od : Option Obj} {b tb : Value}
theorem mx_ne_entry (X : K.In s.heap) (I : InstAt s.heap x ox C od) (hs : findIn K (.ref C) "__eq__" = some (some (.ref f))) (hf : isFn K (.ref f) = true) (hu : A.units < cLine) {Q : Fin → Shared → Prop}
    (hcall : wpAny (model prog w) A (call (.ref f) [.ref x, b]) (fun v s' => ∃ r, v = .bool r ∧ Q (.done (.ret (.bool (!r)))) s') E s) :
    wpAny (model prog w) A (Builtin.«object.__ne__» ⟨[.ref x, b], []⟩) Q E s := by
  obtain ⟨hh, g, d, t, os⟩ := s
  unfold Builtin.«object.__ne__»
  repeat (first
    | with_reducible refine wpAny_cRoomFor hu ?_
    | (refine wpAny_bind (m := callSpecialIfBound? (.ref x) (Str.ofString "__eq__") [b])
        (ifBound_K X I hs hf (wpAny_mono hcall (fun r s' hr => by
          obtain ⟨b, rfl, hq⟩ := hr
          repeat (first | exact hq | exact wpAny_pure hq | exact wpAny_truthy_bool hq | (refine wpAny_bind (m := truthy (.bool _)) (wpAny_truthy_bool ?_)) | wp_step)) fun _ _ e => e)))
    | wp_step)
theorem mx_ne_try (X : K.In s.heap) (I : InstAt s.heap x ox C od) (hn : findIn K (.ref C) "__ne__" = some (some (.builtin "object.__ne__"))) (ho : mroIn K C (.type "object") = some true)
    (hs : findIn K (.ref C) "__eq__" = some (some (.ref f))) (hf : isFn K (.ref f) = true) (hu : A.units + 1 < cLine) {Q : Option Value → Shared → Prop}
    (hcall : wpAny (model prog w) A.in1 (call (.ref f) [.ref x, b]) (fun v s' => ∃ r, v = .bool r ∧ Q (some (.bool (!r))) s') E s) :
    wpAny (model prog w) A (tryCompare (.ref x) "__ne__" b) Q E s := by
  have S := PySem.F.cmp_object.ne
  have sub : Looks (model prog w) s.heap (isInstance (.ref x) (.type "object")) true := I.type.andThen (looks_mroIn X ho)
  simp only [tryCompare, callSpecialIfBound?, bindSpecialIfBound?]
  refine wpAny_bind (wpAny_holding (wpAny_bind (wpAny_bind (wpAny_bind (I.type.here ((looks_findIn X hn).here ?_))))))
  simp only [S.bind]
  refine wpAny_bind (wpAny_askSetting (wpAny_ite ?_))
  have run : wpAny (model prog w) A (call (.builtin "object.__ne__") ([.ref x] ++ [b])) (fun v s' => ∃ r, v = .bool r ∧ Q (some (.bool r)) s') E s := by
    refine wpAny_call (codeAny_call_builtin S.plain PySem.F.cmpEntry_ne (@check_slot (model prog w) _ _ s "object.__ne__" "object" "__ne__" (.ref x) [b] [] _ PySem.F.cmpKind_ne PySem.F.cmpSplit_ne sub (PySem.F.cmpArgs_ne _ _) ?_))
    refine mx_ne_entry (A := A.in1) X I hs hf (Nat.lt_of_le_of_lt (Nat.le_of_eq rfl) hu) (wpAny_mono hcall (fun v s' hv => ?_) fun _ _ e => e)
    obtain ⟨r, rfl, q⟩ := hv
    exact ⟨r, rfl, _, rfl, q⟩
  split
  · refine wpAny_bind (wpAny_pure (wpAny_pure ?_))
    refine wpAny_bind (wpAny_mono run (fun v s' z => ?_) fun _ _ e => e)
    obtain ⟨r, e, q⟩ := z
    subst e
    exact wpAny_pure (wpAny_pure q)
  · refine wpAny_tryCatch (wpAny_bind (wpAny_pure (wpAny_pure ?_)))
    refine wpAny_bind (wpAny_mono run (fun v s' z => ?_) fun _ _ e => e)
    obtain ⟨r, e, q⟩ := z
    subst e
    exact wpAny_pure (wpAny_pure q)
/-- x != b: the own __eq__ is asked, its answer turned -/
theorem mx_ne_K {Q : Value → Shared → Prop} (hu : A.units + 1 < cLine) (F : Fr h₀ L s.heap m) (X₀ : K.In h₀) (I : InstAt s.heap x ox C od) (hb : Looks (model prog w) s.heap (typeOf b) tb) (hnf : notFirst K C tb = true)
    (hn : findIn K (.ref C) "__ne__" = some (some (.builtin "object.__ne__"))) (ho : mroIn K C (.type "object") = some true) (hs : findIn K (.ref C) "__eq__" = some (some (.ref f))) (hf : isFn K (.ref f) = true)
    (h : wpAny (model prog w) A.in1 (call (.ref f) [.ref x, b]) (fun v s' => ∃ r, v = .bool r ∧ Q (.bool (!r)) s') E s) : wpAny (model prog w) A (richCompare .NotEq (.ref x) b) Q E s := by
  have X := X₀.keeps F.keep
  have one : wpAny (model prog w) A (tryCompare (.ref x) "__ne__" b) (fun r s' => ∃ v, r = some v ∧ Q v s') E s :=
    mx_ne_try X I hn ho hs hf hu (wpAny_mono h (fun v s' ⟨r, e, q⟩ => ⟨r, e, _, rfl, q⟩) fun _ _ e => e)
  unfold richCompare
  simp only [oneThing_ref]
  refine wpAny_holding (wpAny_bind (wpAny_cRoomFor (Nat.lt_of_succ_lt hu) ?_))
  rw [cmpInfo_NotEq]
  dsimp only
  refine wpAny_bind (I.type.here (wpAny_bind (hb.here ?_)))
  split
  · rename_i q
    have e : subIn K tb (.ref C) = some false := by
      rcases Bool.or_eq_true_iff.mp hnf with e | e
      · rw [beq_iff_eq.mp e] at q; simp at q
      · exact beq_iff_eq.mp e
    refine wpAny_bind ((looks_subIn X e).here ?_)
    simp only [Bool.false_eq_true, if_false]
    refine wpAny_bind (wpAny_mono one (fun r s' z => ?_) fun _ _ e => e)
    obtain ⟨v, rfl, hq⟩ := z
    exact wpAny_pure hq
  · refine wpAny_bind (wpAny_pure ?_)
    simp only [Bool.false_eq_true, if_false]
    refine wpAny_bind (wpAny_mono one (fun r s' z => ?_) fun _ _ e => e)
    obtain ⟨v, rfl, hq⟩ := z
    exact wpAny_pure hq
end
end PySem.W
end
section
set_option Elab.async false
set_option linter.all false
set_option maxRecDepth 100000
/-! MxN: instances: fields, self.f = v, C(..), isinstance(x, C), == and != by an own __eq__. -/
namespace L2.MX
open PySem PySem.Spec PyProof.Rows
variable [tb : TabT]
/-- a class of the text: its fields; eq: it has an own __eq__ -/
structure ClD where
  cls : Str
  fs : List Str
  eq : Bool
def tyNs : List String := ["NoneType", "bool", "int", "str", "list", "tuple", "dict"]
structure ClF (K : PySem.W.Frag) (c : ClD) : Prop where
  cl : Cls K (He.ga K c.cls)
  no : ∀ f ∈ c.fs, NoAttr K (He.ga K c.cls) f
  mkr : Mk K (He.ga K c.cls) (He.ma K (He.ga K c.cls) "__init__")
  ha : PySem.W.findIn K (.ref (He.ga K c.cls)) "__class__" = some (some (.builtin "object.__class__"))
  hn : PySem.W.specialIn K (.builtin "object.__class__") "__get__" = some (some (.builtin "getset_descriptor.__get__"))
  htk : PySem.W.takesIn K (.builtin "object.__class__") = some true
  hm : PySem.W.mroIn K (He.ga K c.cls) (.type "object") = some true
  ty : ∀ n ∈ tyNs, PySem.W.kitOne K (.type n) (.ref (He.ga K c.cls)) = some false
  nf : ∀ n ∈ tyNs, PySem.W.notFirst K (He.ga K c.cls) (.type n) = true
  eq : c.eq = true → PySem.W.findIn K (.ref (He.ga K c.cls)) "__eq__" = some (some (.ref (He.ma K (He.ga K c.cls) "__eq__"))) ∧ PySem.W.isFn K (.ref (He.ma K (He.ga K c.cls) "__eq__")) = true ∧
    PySem.W.findIn K (.ref (He.ga K c.cls)) "__ne__" = some (some (.builtin "object.__ne__"))
structure ClF2 (K : PySem.W.Frag) (a b : ClD) : Prop where
  isi : PySem.W.kitOne K (.ref (He.ga K a.cls)) (.ref (He.ga K b.cls)) = some (a.cls == b.cls)
  nf : PySem.W.notFirst K (He.ga K a.cls) (.ref (He.ga K b.cls)) = true
structure ClAll (K : PySem.W.Frag) (CL : List ClD) : Prop where
  one : ∀ c ∈ CL, ClF K c
  two : ∀ a ∈ CL, ∀ b ∈ CL, ClF2 K a b
def clOf (CL : List ClD) (x : Str) : Option ClD := CL.find? fun c => c.cls == x
theorem clOf_ok {CL : List ClD} {x : Str} {c : ClD} (h : clOf CL x = some c) : c ∈ CL ∧ c.cls = x := ⟨List.mem_of_find?_eq_some h, by
  have h2 : (c.cls == x) = true := List.find?_some (p := fun c : ClD => c.cls == x) h
  exact beq_iff_eq.mp h2⟩
theorem tyD_mem (d : D) : tyD d ∈ tyNs := by
  unfold tyD
  generalize kdD d = k
  cases k <;> decide
/-! ### fields -/
theorem zip_lookup {K : PySem.W.Frag} {G : Hp} {f : Str} {d : D} : ∀ {fs : List Str} {ds : List D} {vs : List V}, fs.length = vs.length → Reps K G ds vs → (fs.zip ds).lookup f = some d → ∃ v, (fs.zip vs).lookup f = some v ∧ Rep K G d v
  | [], _, _, _, _, e => by simp at e
  | g :: fs, [], _, _, _, e => by simp at e
  | g :: fs, d' :: ds, _, hl, h, e => by
    obtain ⟨v, r, rfl, hv, hr⟩ := h
    rw [List.zip_cons_cons, List.lookup_cons] at e
    rw [List.zip_cons_cons, List.lookup_cons]
    cases q : (f == g) with
    | true =>
      rw [q] at e
      cases e
      exact ⟨v, rfl, hv⟩
    | false =>
      rw [q] at e
      exact zip_lookup (by simpa using hl) hr e
def dFld (CL : List ClD) (f : Str) : D → Option RV
  | .ins c fs ds => (match clOf CL c with
    | some x => if x.fs.contains f then ((fs.zip ds).lookup f).map .pl else none
    | none => none)
  | _ => none
section
variable {X : Cx} {W : WX} {a : Expr} {m : MO} {p p2 tp pos : Pos} {tx : Str} {CL : List ClD}
theorem me_fld {f : Str} (C : ClAll X.K CL) (ha : MOp X W a m) (hb : attributeBase a f X.env (eval a X.env) = eval a X.env := by rfl) : ME X W (.Attribute a f pos) (mUn (dFld CL f) m) := by
  refine (pe_fld ha hb).imp fun σ H Q ⟨G, ρ, r0, h⟩ => ?_
  refine tMO_thenE (Q := Q) r0 h fun G1 H1 ρ1 o v e1 r1 ov h1 => ?_
  unfold ap1 at h1
  split at h1
  · rename_i d ed
    have rep := ov.look r1 ed
    cases d with
    | ins c fs ds =>
      simp only [dFld] at h1
      cases ec : clOf CL c with
      | none =>
        rw [ec] at h1
        exact h1.elim
      | some x =>
        rw [ec] at h1
        obtain ⟨mem, rfl⟩ := clOf_ok ec
        by_cases hf : x.fs.contains f = true
        case neg =>
          simp only [hf] at h1
          exact h1.elim
        simp only [hf, if_true] at h1
        cases el : (fs.zip ds).lookup f with
        | none =>
          simp only [el] at h1
          exact h1.elim
        | some d =>
          simp only [el] at h1
          obtain ⟨b, dx, vs, rfl, hs, hl, hr⟩ := rep
          obtain ⟨v, lv, rv⟩ := zip_lookup hl hr el
          exact ⟨b, _, dx, _, v, rfl, hs, (C.one x mem).cl, (C.one x mem).no f (by simpa using hf), lv, PostE.done r1 h1 Go.refl r1.sub rv⟩
    | _ => exact h1.elim
  · exact h1.elim
end
/-! ### self.f = v -/
def putP {α : Type} (f : Str) : List Str → List α → α → List Str × List α
  | g :: fs, x :: xs, y => if g = f then (g :: fs, y :: xs) else ((g :: (putP f fs xs y).1), x :: (putP f fs xs y).2)
  | _, _, y => ([f], [y])
theorem putP_ok {K : PySem.W.Frag} {G : Hp} {f : Str} {d : D} {v : V} (hv : Rep K G d v) : ∀ {fs : List Str} {ds : List D} {vs : List V}, fs.length = vs.length → Reps K G ds vs →
    ∃ ws, (putP f fs ds d).1.zip ws = putF f v (fs.zip vs) ∧ (putP f fs ds d).1.length = ws.length ∧ Reps K G (putP f fs ds d).2 ws
  | [], ds, vs, hl, h => by
    have e : vs = [] := List.length_eq_zero_iff.mp hl.symm
    subst e
    have e : ds = [] := by have := h.length; exact List.length_eq_zero_iff.mp this
    subst e
    exact ⟨[v], rfl, rfl, Reps.one hv⟩
  | g :: fs, [], vs, hl, h => by
    have e : vs = [] := h
    subst e
    simp at hl
  | g :: fs, c :: ds, _, hl, h => by
    obtain ⟨u, r, rfl, hu, hr⟩ := h
    unfold putP
    rw [List.zip_cons_cons]
    unfold putF
    by_cases q : g = f
    · rw [if_pos q, if_pos q]
      exact ⟨v :: r, rfl, by simpa using hl, v, r, rfl, hv, hr⟩
    · rw [if_neg q, if_neg q]
      obtain ⟨ws, e1, e2, e3⟩ := putP_ok hv (fs := fs) (by simpa using hl) hr
      exact ⟨u :: ws, by rw [List.zip_cons_cons, e1], by simp [e2], u, ws, rfl, hu, e3⟩
def putFl (CL : List ClD) (ρ : Env) (i : Nat) (f : Str) (d : D) : Option Env := match ownedAt ρ i with
  | some (.ins c fs ds) => (match clOf CL c with
    | some x => if x.fs.contains f && decide (fs.length < 1000) then some (setOwn ρ i (.ins c (putP f fs ds d).1 (putP f fs ds d).2)) else none
    | none => none)
  | _ => none
def sSetF (CL : List ClD) (i : Nat) (f : Str) (me : M) : MS := fun ρ => ofE (me ρ) fun r ρ1 => match putFl CL ρ1 i f r.d with
  | some ρ2 => .nx ρ2
  | none => .bad
section
variable {X : Cx} {W : WX} {st : Stmt} {CL : List ClD}
theorem ms_setF {i : Nat} {f : Str} {me : M} (C : ClAll X.K CL) (h : PS X st (sFld X.K (tVar i) (tM X.K W me) f)) : MSt X W st (sSetF CL i f me) := by
  refine h.imp fun D σ H ⟨G, ρ, r, h⟩ => ?_
  refine tM_thenP (D := D) r h fun G1 H1 ρ1 rv v e1 r1 q1 h1 => ?_
  split at h1
  · rename_i ρ2 e
    unfold putFl at e
    split at e
    · rename_i c fs ds eo
      split at e
      · rename_i x ec
        split at e
        · rename_i hf
          cases e
          rw [Bool.and_eq_true, decide_eq_true_iff] at hf
          obtain ⟨mem, rfl⟩ := clOf_ok ec
          have o := ownedAt_owns eo
          obtain ⟨b, eb, n, dx, vs, hs, hl, hr⟩ := r1.ow i _ o
          obtain ⟨ws, w1, w2, w3⟩ := putP_ok (f := f) q1 hl hr
          have t : Top X.K G1 (upd H1 b (.ins (He.ga X.K x.cls) dx (putF f v (fs.zip vs)))) b (.ins x.cls (putP f fs ds rv.d).1 (putP f fs ds rv.d).2) := ⟨dx, ws, by rw [upd_same, w1], w2, w3⟩
          obtain ⟨r2, s2, g2⟩ := r1.write o eb t
          refine ⟨_, eb, b, _, dx, _, rfl, hs, (C.one x mem).cl, (C.one x mem).no f (by simpa using hf.1), ?_, h1 σ G1 _ (Ss.ofE g2 s2) r2⟩
          rw [List.length_zip]
          exact Nat.lt_of_le_of_lt (Nat.min_le_left _ _) hf.2
        · cases e
      · cases e
    · cases e
  · exact h1.elim
end
/-! ### C(args) -/
section
variable {X : Cx} {CX : CXT} {k : Nat} {C f : Addr} {fd : FuncData} {ps : List Str} {sp : Sp} {dvs : List V} {ds : List Value} {E : St → XK} {x : Str} {p pos : Pos} {e : Expr} {es : List Expr} {t : TA}
def tMakeS (C : Addr) (sp : Sp) (dvs : List V) (E : St → XK) (t : TA) : TE := fun σ H Q => t σ H fun vs H1 => ∀ x dx, H1 x = none → H1 dx = none → dx ≠ x → sp (.ref x :: (vs ++ dvs)) (upd (upd H1 dx (.own x)) x (.ins C dx [])) (fun v H2 => v = .non ∧ Q (.ref x) H2) (E σ)
theorem run_makeS {pins : List (Addr × Obj)} {σ : St} {H : Hp} {s : Shared} {Q : VK} {us : List Value} {vs : List V} (M : Mk X.K C f) (F : FnOk X.prog X.w X.K X.mg X.base CX k f fd ps sp) (hr : Room (k + 1) X.A) (hb : Binds X.K fd ps ds) (hd : Vals dvs ds)
    (hx : ∀ H, ∀ pins s e s', Inv X pins σ H s → CX X.stack H s (E σ) e s' → X.xe e s') (I : Inv X pins σ H s) (r : Vals vs us)
    (h : ∀ x dx, H x = none → H dx = none → dx ≠ x → sp (.ref x :: (vs ++ dvs)) (upd (upd H dx (.own x)) x (.ins C dx [])) (fun v H2 => v = .non ∧ Q (.ref x) H2) (E σ)) :
    wpAny (model X.prog X.w) X.A (call (.ref C) us) (EP X pins σ Q) X.xe s := by
  have hq := h (s.heap.objs.size + 1) s.heap.objs.size (I.hok.fresh (Nat.le_succ _)) (I.hok.fresh (Nat.le_refl _)) (Nat.ne_of_lt (Nat.lt_succ_self _))
  have I2 := Inv.made (C := C) I
  have r2 : Vals (V.ref (s.heap.objs.size + 1) :: (vs ++ dvs)) (Value.ref (s.heap.objs.size + 1) :: (us ++ ds)) := .cons rfl (r.append hd)
  have hl : (Value.ref (s.heap.objs.size + 1) :: us ++ ds).length = ps.length := by
    have e := r2.length
    rw [F.len _ _ _ _ hq] at e
    exact e.symm
  refine wpAny_call (make_map (f := f) I.kIn M.makes M.init (beq_iff_eq.mp M.fn) (codeAny_mono (F.run _ X.stack _ _ ⟨Value.ref (s.heap.objs.size + 1) :: us, []⟩ (Value.ref (s.heap.objs.size + 1) :: (us ++ ds)) _ _ (E σ) (hr.make C us [])
    (I2.env0.make C us []) (hb _ (Value.ref (s.heap.objs.size + 1) :: us) I2.kIn hl) r2 hq) fun r s' hq' => ?_))
  cases r with
  | error e => exact hx _ pins _ e s' I2 hq'
  | ok fl =>
    cases fl with
    | ret u =>
      obtain ⟨v, H', I3, rv, ev, q3⟩ := I2.after hq'
      subst ev
      exact ⟨rv, ⟨V.ref (s.heap.objs.size + 1), H', I3, rfl, q3⟩⟩
    | next => exact False.elim hq'
    | brk => exact False.elim hq'
    | cont => exact False.elim hq'
theorem pe_makeS (M : Mk X.K C f) (F : FnOk X.prog X.w X.K X.mg X.base CX k f fd ps sp) (hr : Room (k + 1) X.A) (hg : Gl X x) (hm : X.mg x = some (.ref C)) (hb : Binds X.K fd ps ds) (hd : Vals dvs ds) (hx : ∀ σ, PassesAt CX X σ (E σ))
    (ha : PA X (e :: es) t) (hdb : (x == ("__debug__" : Str)) = false := by decide) (he : starEach (e :: es) X.env = (false, eval e X.env) :: starEach es X.env := by rfl) (hpl : (backTo pos (starEach es X.env)).any (·.1) = false := by rfl) :
    PE X (.Call (.Name x p) (e :: es) [] pos) (tMakeS C sp dvs E t) := by
  refine ⟨fun pins s σ H Q I h => ?_⟩
  refine wpAny_Call_Name_kw (ld_glob I hg hm ?_ hdb)
  refine PySem.W.callWith_K (h₀ := X.base) I.ok.mod.kin M.kp (thn (ha.run pos pins s σ H _ I h) fun us s1 ⟨vs, H1, I1, r, q⟩ => ⟨I1.kIn, ?_⟩) he hpl
  exact run_makeS M F hr hb hd (fun H pins s e s' I z => hx σ pins H s e s' I z) I1 r q
end
/-- an instance is made: its __init__ writes the new one, then it stands -/
def mMake (c : Str) (dfl : List D) (fm : MF) (args : MA) : M := fun ρ => bindM (args ρ) fun os ρ1 => match plainsOf ρ1 os with
  | some cs => (match fm (.io (.ins c [] []) :: (cs ++ dfl.map Cell.pl)) with
    | .rt (.pl .non) (.io d' :: _) => .ok (.pl d') ρ1
    | .ex x _ => .ex x ρ1
    | _ => .bad)
  | none => .bad
section
variable {K : PySem.W.Frag} {G H G1 H1 : Hp} {σ : St} {ρ : Env} {W : WX}
theorem make_then {c : Str} {dfl : List D} {fm : MF} {ma : MA} {Q : VK} (hd : dfl.all scal = true) (h : tM K W (mMake c dfl fm ma) σ H Q) : tMakeS (He.ga K c) (spM K fm) (dfl.map scV) (WE W) (tMA K W ma) σ H Q := by
  obtain ⟨G, ρ, r0, h⟩ := h
  refine tMA_thenE (Q := Q) r0 h fun G1 H1 ρ1 os vs e1 r1 ovs h1 => ?_
  intro x dx hx hdx hne
  split at h1
  · rename_i cs e
    obtain ⟨ds, rfl, q⟩ := plains_rep r1 ovs e
    have rr := q.append (dfl_reps (K := K) (G := G1) hd)
    have gx : G1 x = none := by
      cases z : G1 x with
      | none => rfl
      | some u => rw [r1.sub x u z] at hx; cases hx
    have exH : Ex H1 (upd (upd H1 dx (.own x)) x (.ins (He.ga K c) dx [])) := fun b u z => by
      have n1 : b ≠ x := fun y => by rw [y, hx] at z; cases z
      have n2 : b ≠ dx := fun y => by rw [y, hdx] at z; cases z
      rw [upd_ne n1, upd_ne n2]; exact z
    have tab := r1.tabs.more (Ex.refl G1) exH
    have t : Top K G1 (upd (upd H1 dx (.own x)) x (.ins (He.ga K c) dx [])) x (.ins c [] []) := ⟨dx, [], upd_same, rfl, rfl⟩
    have go1 : Go NoI G1 H1 G1 (upd (upd H1 dx (.own x)) x (.ins (He.ga K c) dx [])) := ⟨Ex.refl _, fun a u z _ _ => exH a u z, fun a u z => ⟨u, exH a u z⟩, fun a u z => .inl z, fun t => t.more (Ex.refl _) exH, id⟩
    refine ⟨G1, .io (.ins c [] []) :: (ds ++ dfl).map Cell.pl, lend_rel (r1.sub.trans exH) r1.ntb tab gx t rr, ?_⟩
    rw [← List.map_append] at h1
    have goB : ∀ {G2 H2}, Go (Own ((V.ref x :: (vs ++ dfl.map scV)).map some) (.io (.ins c [] []) :: (ds ++ dfl).map Cell.pl)) G1 (upd (upd H1 dx (.own x)) x (.ins (He.ga K c) dx [])) G2 H2 → Go NoI G1 H1 G2 H2 := fun g =>
      go1.trans (g.weak fun b z => lend_own b z) fun b z => .inr (by rw [z]; exact hx)
    split at h1
    · rename_i d' ρc e2
      rw [e2]
      intro v G2 H2 g r2 _ q2
      obtain ⟨b, eb, n2, t2⟩ := r2.ow 0 d' (.inr rfl)
      have eb : some (some (V.ref x)) = some (some (V.ref b)) := eb
      cases eb
      have g3 := goB g
      obtain ⟨G3, g4, r4, _, rep⟩ := publish (rv := .fr d') (v := .ref x) r1 (g3.weak fun _ z => z.elim) (r1.step g3 r2.sub) (Sub.refl ρ1) ⟨x, rfl, hx, n2, t2⟩
      exact ⟨q2, h1 (.ref x) G3 H2 g4 r4 (Sub.refl ρ1) rep⟩
    · rename_i y ρc e2
      rw [e2]
      intro cls d G2 H2 g r2 _ q2
      have g3 := goB g
      exact h1 cls d G2 H2 (g3.weak fun _ z => z.elim) (r1.step g3 r2.sub) (Sub.refl ρ1) q2
    · exact h1.elim
  · exact h1.elim
end
/-- a method as a fact -/
structure FnM (P : Program) (w : World) (K : PySem.W.Frag) (mg : Str → Option Value) (base : Heap) (k : Nat) (f : Addr) (ps : List Str) (dfl : List D) (fm : MF) : Prop where
  ex : ∃ fd, FnOk P w K mg base (L2.CX P w) k f fd ps (spM K fm) ∧ Lk K f fd ∧ ∀ j, j ≤ dfl.length → ∃ ds, Vals ((dfl.drop j).map scV) ds ∧ Binds K fd ps ds
section
variable {X : Cx} {W : WX} {e : Expr} {es : List Expr} {ma : MA} {fm : MF} {dfl : List D} {x : Str} {p pos : Pos} {k n : Nat} {ps : List Str} {CL : List ClD}
theorem me_make (C : ClAll X.K CL) (F : FnM X.prog X.w X.K X.mg X.base k (He.ma X.K (He.ga X.K x) "__init__") ps dfl fm) (gm : X.mg x = some (.ref (He.ga X.K x))) (j : Nat) (hr : Room n X.A) (tk : Takes X W) (ha : MAr X W (e :: es) ma) (hc : (clOf CL x).isSome = true := by rfl) (hk : k + 1 ≤ n := by decide) (hj : j ≤ dfl.length := by decide) (hg : Gl X x := by rfl) (hsc : (dfl.drop j).all scal = true := by rfl)
    (hdb : (x == ("__debug__" : Str)) = false := by decide) (he : starEach (e :: es) X.env = (false, eval e X.env) :: starEach es X.env := by rfl) (hpl : (backTo pos (starEach es X.env)).any (·.1) = false := by rfl) :
    ME X W (.Call (.Name x p) (e :: es) [] pos) (mMake x (dfl.drop j) fm ma) := by
  obtain ⟨c, ec⟩ := Option.isSome_iff_exists.mp hc
  obtain ⟨mem, rfl⟩ := clOf_ok ec
  obtain ⟨fd, F1, _, hb⟩ := F.ex
  obtain ⟨ds, v, b⟩ := hb j hj
  exact (pe_makeS (C.one c mem).mkr F1 (hr.mono hk) hg gm b v (fun σ => passAt tk σ) ha hdb he hpl).imp fun _ _ _ h => make_then hsc h
end
/-! ### isinstance(x, C) -/
def dIsC (CL : List ClD) (c : Str) : D → Option RV
  | .ins c' _ _ => if (clOf CL c').isSome && (clOf CL c).isSome then pB (c' == c) else none
  | .clo _ _ => none
  | _ => if (clOf CL c).isSome then pB false else none
section
variable {X : Cx} {W : WX} {a : Expr} {m : MO} {p p2 tp pos : Pos} {tx : Str} {CL : List ClD}
theorem tyx_ins {K : PySem.W.Frag} {G H : Hp} {c : Str} {fs : List Str} {ds : List D} {v : V} {x : ClD} (C : ClF K x) (e : x.cls = c) (h : Rep2 K G H (.ins c fs ds) v) : TyX K H v (.ref (He.ga K c)) := by
  subst e
  obtain ⟨a, dx, vs, rfl, hs, hl, hr⟩ := h
  exact .base (.ins hs C.cl C.ha C.hn C.htk C.hm)
theorem me_isC (C : ClAll X.K CL) (gm : X.mg tx = some (.ref (He.ga X.K tx))) (ha : MOp X W a m) (hg : Gl X "isinstance" := by rfl) (hm : X.mg "isinstance" = none) (hg2 : Gl X tx := by rfl) (hdb : (tx == ("__debug__" : Str)) = false := by decide)
    (he : starEach [a, .Name tx p2] X.env = (false, eval a X.env) :: starEach [.Name tx p2] X.env := by rfl) (he2 : starEach [.Name tx p2] X.env = (false, eval (.Name tx p2) X.env) :: starEach [] X.env := by rfl) (hpl : (backTo pos (starEach [.Name tx p2] X.env)).any (·.1) = false := by rfl) :
    ME X W (.Call (.Name "isinstance" p) [a, .Name tx p2] [] pos) (mUn (dIsC CL tx) m) := by
  have pt : PE X (.Name tx p2) (tC (.ref (He.ga X.K tx))) := pe_glob hg2 gm rfl hdb
  refine (pe_callB call_isi hg hm (by decide +kernel) (pa_cons ha (pa_cons pt pa_nil he2) he) (he := he) (hpl := hpl)).imp fun σ H Q ⟨G, ρ, r0, h⟩ => ?_
  refine tMO_thenE (Q := Q) r0 h fun G1 H1 ρ1 o v e1 r1 ov h1 => ?_
  show ∃ (x c : V) (t' u : Value) (b : Bool), _
  unfold ap1 at h1
  split at h1
  · rename_i d ed
    have rep := ov.look r1 ed
    have flat : flatK d = true → PostE X.K G1 H1 σ ρ1 W Q (match (if (clOf CL tx).isSome then pB false else none) with
      | some rv => .ok rv ρ1
      | none => .bad) → ∃ (x c : V) (t' u : Value) (b : Bool), [v, V.ref (He.ga X.K tx)] = [x, c] ∧ ClsV c u ∧ TyX X.K H1 x t' ∧ PySem.W.kitOne X.K t' u = some b ∧ Q (.bl b) H1 := fun fl h2 => by
      cases ec : clOf CL tx with
      | none => simp only [ec] at h2; exact h2.elim
      | some x =>
        have h3 : PostE X.K G1 H1 σ ρ1 W Q (.ok (.pl (.bl false)) ρ1) := by
          simp only [ec] at h2
          exact h2
        obtain ⟨mem, ex⟩ := clOf_ok ec
        subst ex
        exact ⟨v, _, _, _, false, rfl, .own _, tyx_of r1.sub fl rep, (C.one x mem).ty _ (tyD_mem d), PostE.done r1 h3 Go.refl r1.sub rfl⟩
    cases d with
    | ins c' fs ds =>
      simp only [dIsC] at h1
      cases e1 : clOf CL c' with
      | none => simp only [e1] at h1; exact h1.elim
      | some x1 =>
        cases e2 : clOf CL tx with
        | none => simp only [e1, e2] at h1; exact h1.elim
        | some x2 =>
          have h3 : PostE X.K G1 H1 σ ρ1 W Q (.ok (.pl (.bl (c' == tx))) ρ1) := by
            simp only [e1, e2] at h1
            exact h1
          obtain ⟨m1, n1⟩ := clOf_ok e1
          obtain ⟨m2, n2⟩ := clOf_ok e2
          subst n1 n2
          exact ⟨v, _, _, _, _, rfl, .own _, tyx_ins (C.one x1 m1) rfl rep, (C.two x1 m1 x2 m2).isi, PostE.done r1 h3 Go.refl r1.sub rfl⟩
    | clo k cl => exact h1.elim
    | _ => exact flat rfl h1
  · exact h1.elim
end
/-! ### == and != where the left side may be an instance with its own __eq__ -/
def knownR (CL : List ClD) : Option D → Bool
  | some (.ins c _ _) => (clOf CL c).isSome
  | some (.clo _ _) => false
  | some _ => true
  | none => false
def mEqO (CL : List ClD) (ne : Bool) (eqs : List (Str × MF)) (f : Fn2) (a b : MO) : M := fun ρ => bindM (a ρ) fun o ρ1 => bindM (b ρ1) fun p ρ2 => match o.get ρ2 with
  | some (.ins c _ _) => (match clOf CL c, eqs.find? (fun q => q.1 == c), plainsOf ρ2 [o, p] with
    | some x, some q, some cs => if x.eq && knownR CL (p.get ρ2) then (match q.2 cs with
      | .rt (.pl (.bl r)) _ => .ok (.pl (.bl (if ne then !r else r))) ρ2
      | _ => .bad) else .bad
    | _, _, _ => .bad)
  | _ => ap2 f ρ2 o p
/-- the own __eq__ of each class in the list -/
def EqAll (P : Program) (w : World) (K : PySem.W.Frag) (mg : Str → Option Value) (base : Heap) (k : Nat) (eqs : List (Str × MF)) : Prop := ∀ q ∈ eqs, ∃ (ps : List Str) (j : Nat), ps.length = 2 ∧ j ≤ k ∧ FnM P w K mg base j (He.ma K (He.ga K q.1) "__eq__") ps [] q.2
/-- what it asks -/
def rOwnB (K : PySem.W.Frag) (ne : Bool) (P : Program) (w : World) (mg : Str → Option Value) (base : Heap) (k : Nat) : R2 := fun x y H Q => ∃ a C f dx fs t ps fm j, j ≤ k ∧ x = .ref a ∧ H a = some (.ins C dx fs) ∧ TyX K H y t ∧ PySem.W.notFirst K C t = true ∧ PySem.W.mroIn K C (.type "object") = some true ∧
  PySem.W.findIn K (.ref C) "__eq__" = some (some (.ref f)) ∧ PySem.W.isFn K (.ref f) = true ∧ PySem.W.findIn K (.ref C) "__ne__" = some (some (.builtin "object.__ne__")) ∧ FnM P w K mg base j f ps [] fm ∧ ps.length = 2 ∧
  spM K fm [x, y] H (fun v H' => ∃ r, v = .bl r ∧ Q (.bl (if ne then !r else r)) H') (WE W0 [])
theorem run_in {X : Cx} {A : Around} {k : Nat} {f : Addr} {ps : List Str} {fm : MF} {pins : List (Addr × Obj)} {σ : St} {H : Hp} {s : Shared} {Q : VK} {us : List Value} {vs : List V} (F : FnM X.prog X.w X.K X.mg X.base k f ps [] fm) (hr : Room k A) (e0 : Env0 X.prog X.w X.K X.mg X.base A X.stack s H)
    (I : Inv X pins σ H s) (r : Vals vs us) (hl : ps.length = us.length) (h : spM X.K fm vs H Q (WE W0 σ)) : wpAny (model X.prog X.w) A (call (.ref f) us) (EP X pins σ Q) X.xe s := by
  obtain ⟨fd, F1, _, hb⟩ := F.ex
  obtain ⟨ds, hv, b⟩ := hb 0 (Nat.le_refl _)
  cases hv
  have r2 : Vals vs (us ++ []) := by rw [List.append_nil]; exact r
  refine wpAny_call (codeAny_mono (F1.run A X.stack s H ⟨us, []⟩ (us ++ []) vs Q (WE W0 σ) hr e0 (b s us I.kIn (by rw [List.append_nil]; exact hl.symm)) r2 h) fun r s' hq => ?_)
  cases r with
  | error e => exact passAt takes0 σ pins H s e s' I hq
  | ok fl =>
    cases fl with
    | ret u => exact I.after hq
    | next => exact False.elim hq
    | brk => exact False.elim hq
    | cont => exact False.elim hq
theorem op_ownB {X : Cx} {k n : Nat} (ne : Bool) (hr : Room n X.A) (hk : k + 1 ≤ n) : OpR X (compareOp (if ne then .NotEq else .Eq)) (rOwnB X.K ne X.prog X.w X.mg X.base k) := by
  intro pins s σ H x y v u Q I rx ry h
  obtain ⟨a, C, f, dx, fs, t, ps, fm, j, hj, rfl, ha, ty, hn, ho, he, hf, hne, F, hl, q⟩ := h
  cases (show v = Value.ref a from rx)
  obtain ⟨mA, J, _⟩ := ins_get I.hok ha
  obtain ⟨od, J, _⟩ := J.look
  obtain ⟨P, Z, p, hx⟩ := kit_of I ry ty
  obtain ⟨m, hF⟩ := I.fr
  have hr1 : Room (k + 1) X.A := hr.mono hk
  have r2 : Vals [V.ref a, y] [Value.ref a, u] := .cons rfl (.cons ry .nil)
  cases ne with
  | false =>
    show wpAny (model X.prog X.w) X.A (richCompare .Eq (.ref a) u) _ _ s
    refine PySem.W.cmp_K (op := .Eq) hr.units0 hF I.ok.mod.kin J (Z.ty _ _ I.kIn p) hn he hf ?_
    refine wpAny_mono (run_in F (hr1.mono (Nat.le_trans hj (Nat.le_succ k))) I.env0 I r2 hl q) (fun w s' z => ?_) fun _ _ x => x
    obtain ⟨z', H', I', rz, r, ez, qz⟩ := z
    subst ez
    exact SlX.cmpback rz ⟨_, H', I', rz, qz⟩
  | true =>
    show wpAny (model X.prog X.w) X.A (richCompare .NotEq (.ref a) u) _ _ s
    refine PySem.W.mx_ne_K (u1 hr) hF I.ok.mod.kin J (Z.ty _ _ I.kIn p) hn hne ho he hf ?_
    refine wpAny_mono (run_in F (hr1.in1.mono hj) I.env0.in1 I r2 hl q) (fun w s' z => ?_) fun _ _ x => x
    obtain ⟨z', H', I', rz, r, ez, qz⟩ := z
    subst ez
    obtain rfl : w = Value.bool r := rz
    exact ⟨r, rfl, .bl (!r), H', I', rfl, qz⟩
section
variable {X : Cx} {W : WX} {a b : Expr} {ma mb : MO} {pos : Pos} {n k : Nat} {CL : List ClD} {f : Fn2} {r : R2} {eqs : List (Str × MF)}
theorem ownB_then {σ : St} {H : Hp} {Q : VK} (ne : Bool) (C : ClAll X.K CL) (hs : OpS X.K f r) (E : EqAll X.prog X.w X.K X.mg X.base k eqs) (h : tM X.K W (mEqO CL ne eqs f ma mb) σ H Q) :
    tOp (fun x y H Q => r x y H Q ∨ rOwnB X.K ne X.prog X.w X.mg X.base k x y H Q) (tMO X.K W ma) (tMO X.K W mb) σ H Q := by
  obtain ⟨G, ρ, r0, h⟩ := h
  refine tMO_thenE (Q := Q) r0 h fun G1 H1 ρ1 o v e1 r1 ov h1 => ?_
  refine tMO_thenE (Q := Q) r1 h1 fun G2 H2 ρ2 p w e2 r2 pw h2 => ?_
  have ov := ov.mono e2
  split at h2
  · rename_i c fs ds eo
    right
    cases ec : clOf CL c with
    | none => simp only [ec] at h2; exact h2.elim
    | some x =>
      cases eq : eqs.find? (fun q => q.1 == c) with
      | none => simp only [ec, eq] at h2; exact h2.elim
      | some q =>
        cases ep : plainsOf ρ2 [o, p] with
        | none => simp only [ec, eq, ep] at h2; exact h2.elim
        | some cs =>
          simp only [ec, eq, ep] at h2
          split at h2
          · rename_i hh
            rw [Bool.and_eq_true] at hh
            obtain ⟨hq, hk⟩ := hh
            obtain ⟨mem, rfl⟩ := clOf_ok ec
            have qm : q.1 = x.cls := by
              have h2 : (q.1 == x.cls) = true := List.find?_some (p := fun q : Str × MF => q.1 == x.cls) eq
              exact beq_iff_eq.mp h2
            obtain ⟨ps, j, hl, hj, F⟩ := E q (List.mem_of_find?_eq_some eq)
            rw [qm] at F
            have CF := C.one x mem
            obtain ⟨q1, q2, q3⟩ := CF.eq hq
            have rep := ov.look r2 eo
            obtain ⟨b, dx, vs, rfl, hs, hlv, hr⟩ := rep
            have ty : ∃ t, TyX X.K H2 w t ∧ PySem.W.notFirst X.K (He.ga X.K x.cls) t = true := by
              cases ed : p.get ρ2 with
              | none => rw [ed] at hk; cases hk
              | some d2 =>
                rw [ed] at hk
                have rep2 := pw.look r2 ed
                have flat : flatK d2 = true → ∃ t, TyX X.K H2 w t ∧ PySem.W.notFirst X.K (He.ga X.K x.cls) t = true := fun fl => ⟨_, tyx_of r2.sub fl rep2, CF.nf _ (tyD_mem d2)⟩
                cases d2 with
                | ins c2 fs2 ds2 =>
                  obtain ⟨x2, ex2⟩ := Option.isSome_iff_exists.mp hk
                  obtain ⟨m2, n2⟩ := clOf_ok ex2
                  exact ⟨_, tyx_ins (C.one x2 m2) n2 rep2, by rw [← n2]; exact (C.two x mem x2 m2).nf⟩
                | clo k cl => cases hk
                | _ => exact flat rfl
            obtain ⟨t, ty, nf⟩ := ty
            obtain ⟨dd, rfl, rr⟩ := plains_rep r2 (.cons ov (.cons pw .nil)) ep
            refine ⟨b, _, _, dx, _, t, ps, q.2, j, hj, rfl, hs, ty, nf, CF.hm, q1, q2, q3, F, hl, G2, dd.map Cell.pl, plain_rel r2.sub r2.ntb r2.tabs rr, ?_⟩
            split at h2
            · rename_i rb ρc e3
              rw [e3]
              intro v G3 H3 g r3 _ q4
              have g' : Go NoI G2 H2 G3 H3 := g.weak fun _ z => plain_noown z
              exact ⟨rb, q4, PostE.done r2 h2 g' r3.sub rfl⟩
            · exact h2.elim
          · exact h2.elim
  · left
    exact ap2_ok hs r2 ov pw h2
theorem me_eqO (C : ClAll X.K CL) (ho : OpR X (compareOp .Eq) r) (hs : OpS X.K f r) (E : EqAll X.prog X.w X.K X.mg X.base k eqs) (hr : Room n X.A) (ha : MOp X W a ma) (hb : MOp X W b mb) (hk : k + 1 ≤ n := by decide) : ME X W (.Compare a [.Eq] [b] pos) (mEqO CL false eqs f ma mb) :=
  (pe_cmpR (ho.or (op_ownB false hr hk)) ha hb (nomark _)).imp fun _ _ _ h => ownB_then false C hs E h
theorem me_neO (C : ClAll X.K CL) (ho : OpR X (compareOp .NotEq) r) (hs : OpS X.K f r) (E : EqAll X.prog X.w X.K X.mg X.base k eqs) (hr : Room n X.A) (ha : MOp X W a ma) (hb : MOp X W b mb) (hk : k + 1 ≤ n := by decide) : ME X W (.Compare a [.NotEq] [b] pos) (mEqO CL true eqs f ma mb) :=
  (pe_cmpR (ho.or (op_ownB true hr hk)) ha hb (nomark _)).imp fun _ _ _ h => ownB_then true C hs E h
theorem mt_eqO (C : ClAll X.K CL) (ho : OpR X (compareOp .Eq) r) (hs : OpS X.K f r) (E : EqAll X.prog X.w X.K X.mg X.base k eqs) (hr : Room n X.A) (ha : MOp X W a ma) (hb : MOp X W b mb) (hk : k + 1 ≤ n := by decide) : MTe X W (.Compare a [.Eq] [b] pos) (mtB (mEqO CL false eqs f ma mb)) :=
  (pt_cmpR (ho.or (op_ownB false hr hk)) ha hb (nomark _)).imp fun _ _ _ h => ownB_then false C hs E (test_then h)
theorem mt_neO (C : ClAll X.K CL) (ho : OpR X (compareOp .NotEq) r) (hs : OpS X.K f r) (E : EqAll X.prog X.w X.K X.mg X.base k eqs) (hr : Room n X.A) (ha : MOp X W a ma) (hb : MOp X W b mb) (hk : k + 1 ≤ n := by decide) : MTe X W (.Compare a [.NotEq] [b] pos) (mtB (mEqO CL true eqs f ma mb)) :=
  (pt_cmpR (ho.or (op_ownB true hr hk)) ha hb (nomark _)).imp fun _ _ _ h => ownB_then true C hs E (test_then h)
end
theorem ms_par3 {X : Cx} {W : WX} {st : Stmt} {i j l : Nat} {m : MR} (h : PS X st (tPar3 i j l (tMR X.K W m))) : MSt X W st (sPar [i, j, l] m) := by
  refine h.imp fun D σ H h => ?_
  obtain ⟨G, ρ, r, q⟩ := par_then h
  refine ⟨G, ρ, r, ?_⟩
  cases e : m ρ with
  | bad => rw [e] at q; exact q
  | ex x ρ1 => rw [e] at q; exact q
  | ok rs ρ1 =>
    rw [e] at q
    intro vs G1 H1 g r1 s z
    obtain ⟨hl, hn, _⟩ := q vs G1 H1 g r1 s z
    match vs, hl with
    | [v, w, u], _ => exact ⟨v, w, u, rfl, hn⟩
end L2.MX
end
section
set_option Elab.async false
set_option linter.all false
set_option maxRecDepth 100000
/-! MxHk: the head's facts: defs, exception classes with their __init__, tables of code objects. -/
namespace L2.MX
open PySem PySem.Spec PyProof.Rows PySem.W
/-! ### what is looked at -/
def refsM (o : Obj) : List Addr := He.refsO o ++ match o.data with
  | .func fd => fd.closure.map (·.2)
  | _ => []
def growM (g : Addr → Option Obj) (as : List Addr) : List Addr := (as ++ as.flatMap fun a => match g a with
  | some o => refsM o
  | none => []).eraseDups
def asM (g : Addr → Option Obj) : Nat → List Addr
  | 0 => [mainGlobals, cStatics]
  | n + 1 => growM g (asM g n)
def KM (n : Nat) (g : Addr → Option Obj) : Frag := He.frT g (asM g n)
/-! ### exception classes -/
def oexB (K : Frag) (C : Addr) : Bool := (match K.lookup C with
  | some ⟨.type t, _, .cls cd, sl⟩ => (match cd.mro, sl.toList with
    | .ref C' :: bm, [_, _, _, _, some (.builtin n), _] => t == "type" && C' == C && n == "ValueError.__new__" && !cd.hasDel && cd.hasDict && PySem.HandSPX.refsVE bm
    | _, _ => false)
  | _ => false) && (He.eqO (findIn K (.ref C) "__setattr__") (some (some (.builtin "object.__setattr__"))) && (decide (subIn K (.ref C) (.type "BaseException") = some true) && (decide (typeIn K (.ref C) = some (.type "type")) && keepIn K (.ref C))))
theorem oexB_ok {K : Frag} {C : Addr} (h : oexB K C = true) : OexC K C := by
  obtain ⟨h1, h2⟩ := He.ba h
  obtain ⟨h2, h3⟩ := He.ba h2
  obtain ⟨h3, h4⟩ := He.ba h3
  obtain ⟨h4, h5⟩ := He.ba h4
  refine ⟨?_, He.eqO_ok h2, of_decide_eq_true h3, of_decide_eq_true h4, h5⟩
  split at h1
  · rename_i t dd cd sl ho
    split at h1
    · rename_i C' bm k0 k1 k2 k3 n k5 hm hs
      simp only [Bool.and_eq_true, beq_iff_eq, Bool.not_eq_true'] at h1
      obtain ⟨⟨⟨⟨⟨rfl, rfl⟩, rfl⟩, hdel⟩, hdict⟩, hr⟩ := h1
      obtain ⟨nm, bs, mro, ns, qn, hd, sn, sub, ab, col, del⟩ := cd
      dsimp only at hm hdel hdict
      subst hm hdel hdict
      have hsl : sl = #[k0, k1, k2, k3, some (.builtin "ValueError.__new__"), k5] := by
        obtain ⟨l⟩ := sl
        simp only at hs
        rw [hs]
      subst hsl
      exact ⟨nm, qn, ns, bs, bm, sn, sub, ab, col, dd, k0, k1, k2, k3, k5, ho, hr⟩
    · cases h1
  · cases h1
def exkB (K : Frag) (C : Addr) : Bool := oexB K C && (decide (mroIn K C (.ref C) = some true) && (He.eqO (ks_superIn K C C "__init__") (some (some (.builtin "ValueError.__init__"))) && (decide (subIn K (.ref C) (.type "ValueError") = some true) && He.eqO (nsIn K cStatics "thirdparty.any") (some none))))
theorem exkB_ok {K : Frag} {C : Addr} (h : exkB K C = true) : ExK K C := by
  obtain ⟨h1, h2⟩ := He.ba h
  obtain ⟨h2, h3⟩ := He.ba h2
  obtain ⟨h3, h4⟩ := He.ba h3
  obtain ⟨h4, h5⟩ := He.ba h4
  exact ⟨oexB_ok h1, of_decide_eq_true h2, He.eqO_ok h3, of_decide_eq_true h4, He.eqO_ok h5⟩
/-- the __init__: what is looked at beside its text -/
def exiB (P : Program) (K : Frag) (C fI : Addr) : Bool := He.eqO (findIn K (.ref C) "__init__") (some (some (.ref fI))) && (decide (typeIn K (.ref fI) = some (.type "function")) && (match K.lookup fI with
  | some ⟨_, _, .func fd, _⟩ => (match fd.closure, fd.code, fd.defaults with
    | [(n, cc)], .ref cda, .none => n == ("__class__" : PySem.Str) && (codeIn K (.ref cda) fd.qualname && ((match K.lookup cda with
        | some ⟨_, _, .fields vs, _⟩ => (match (vs[2]? : Option Value) with
          | some (.str file _) => (P.main.file : Str) == file
          | _ => false)
        | _ => false) && (match K.lookup cc with
        | some ⟨_, _, .cell (some (.ref D)), _⟩ => decide (D = C)
        | _ => false)))
    | _, _, _ => false)
  | _ => false))
abbrev FnI : Type := Option (Str × Arguments × FuncBody × Scope × Addr × Addr)
def fnI (K : Frag) (f : Addr) : FnI := match K.lookup f with
  | some ⟨_, _, .func fd, _⟩ => some (fd.name, fd.params, fd.body, fd.scope, fd.globals, fd.builtins)
  | _ => none
theorem exi_ok {P : Program} {K : Frag} {C fI : Addr} {params : Arguments} {body : List Stmt} {scope : Scope} (h : exiB P K C fI = true) (e : fnI K fI = (some (("__init__" : PySem.Str), params, FuncBody.stmts body, scope, mainGlobals, builtinsNs) : FnI)) : ExI P K C fI params body scope := by
  obtain ⟨h1, h2⟩ := He.ba h
  obtain ⟨h2, h3⟩ := He.ba h2
  refine ⟨He.eqO_ok h1, of_decide_eq_true h2, ?_⟩
  unfold fnI at e
  split at h3
  · rename_i oc od fd osl ho
    rw [ho] at e
    split at h3
    · rename_i n cc cda hcl hco hdf
      obtain ⟨k3, k4⟩ := He.ba h3
      obtain ⟨k4a, k5⟩ := He.ba k4
      obtain ⟨k5a, k6⟩ := He.ba k5
      clear h3 k4 k5
      have e := Option.some.inj e
      obtain ⟨nm, qn, prm, bd, sc, gl, cl, df, kd, dc, pm, an, cd, ct, bl⟩ := fd
      simp only [Prod.mk.injEq] at e
      dsimp only at hcl hco hdf k4a
      obtain ⟨rfl, rfl, rfl, rfl, rfl, rfl⟩ := e
      subst hcl hco hdf
      have hn : n = ("__class__" : PySem.Str) := beq_iff_eq.mp k3
      subst hn
      refine ⟨oc, od, osl, qn, kd, dc, pm, ct, an, cda, cc, ho, k4a, ?_, ?_⟩
      · split at k5a
        · rename_i a b vs sl hk
          split at k5a
          · rename_i file t hv
            exact ⟨_, vs, file, t, hk, rfl, hv, k5a⟩
          · cases k5a
        · cases k5a
      · split at k6
        · rename_i a b D sl hk
          have hD : D = C := of_decide_eq_true k6
          subst hD
          exact ⟨_, hk, rfl⟩
        · cases k6
    · cases h3
  · cases h3
/-- an exception class: its name, its fields, its __init__'s text -/
structure XcD where
  cls : Str
  ns : List Str
  params : Arguments
  body : List Stmt
  scope : Scope
def XcD.fI (K : Frag) (x : XcD) : Addr := He.ma K (He.ga K x.cls) "__init__"
def XcD.val (x : XcD) : FnI := some (("__init__" : PySem.Str), x.params, .stmts x.body, x.scope, mainGlobals, builtinsNs)
def XcD.ok (P : Program) (K : Frag) (x : XcD) : Bool := exkB K (He.ga K x.cls) && (exiB P K (He.ga K x.cls) (x.fI K) && ((x.ns.all fun f => He.eqO (findIn K (.ref (He.ga K x.cls)) f) (some none)) && xfB K (He.ga K x.cls)))
/-! ### classes -/
def clfB (K : Frag) (c : ClD) : Bool := (He.Fa.cls c.cls).ok K && ((c.fs.all fun f => (He.Fa.noat c.cls f).ok K) && ((He.Fa.mkr c.cls).ok K && (He.eqO (findIn K (.ref (He.ga K c.cls)) "__class__") (some (some (.builtin "object.__class__"))) &&
  (He.eqO (specialIn K (.builtin "object.__class__") "__get__") (some (some (.builtin "getset_descriptor.__get__"))) && (decide (takesIn K (.builtin "object.__class__") = some true) && (decide (mroIn K (He.ga K c.cls) (.type "object") = some true) &&
  ((tyNs.all fun n => decide (kitOne K (.type n) (.ref (He.ga K c.cls)) = some false)) && ((tyNs.all fun n => notFirst K (He.ga K c.cls) (.type n)) &&
  (!c.eq || (He.eqO (findIn K (.ref (He.ga K c.cls)) "__eq__") (some (some (.ref (He.ma K (He.ga K c.cls) "__eq__")))) && (isFn K (.ref (He.ma K (He.ga K c.cls) "__eq__")) && He.eqO (findIn K (.ref (He.ga K c.cls)) "__ne__") (some (some (.builtin "object.__ne__"))))))))))))))
theorem clfB_ok {K : Frag} {c : ClD} (h : clfB K c = true) : ClF K c := by
  obtain ⟨a1, h⟩ := He.ba h
  obtain ⟨a2, h⟩ := He.ba h
  obtain ⟨a3, h⟩ := He.ba h
  obtain ⟨a4, h⟩ := He.ba h
  obtain ⟨a5, h⟩ := He.ba h
  obtain ⟨a6, h⟩ := He.ba h
  obtain ⟨a7, h⟩ := He.ba h
  obtain ⟨a8, h⟩ := He.ba h
  obtain ⟨a9, h⟩ := He.ba h
  refine ⟨He.cls_ok a1, fun f hf => He.noat_ok (List.all_eq_true.mp a2 f hf), He.mkr_ok a3, He.eqO_ok a4, He.eqO_ok a5, of_decide_eq_true a6, of_decide_eq_true a7, fun n hn => of_decide_eq_true (List.all_eq_true.mp a8 n hn), fun n hn => List.all_eq_true.mp a9 n hn, fun he => ?_⟩
  rw [he] at h
  obtain ⟨b1, b⟩ := He.ba (show (_ && _) = true from h)
  obtain ⟨b2, b3⟩ := He.ba b
  exact ⟨He.eqO_ok b1, b2, He.eqO_ok b3⟩
def clsB (K : Frag) (cs : List ClD) : Bool := (cs.all fun c => clfB K c) && cs.all fun a => cs.all fun b => decide (kitOne K (.ref (He.ga K a.cls)) (.ref (He.ga K b.cls)) = some (a.cls == b.cls)) && notFirst K (He.ga K a.cls) (.ref (He.ga K b.cls))
theorem clsB_ok {K : Frag} {cs : List ClD} (h : clsB K cs = true) : ClAll K cs := by
  obtain ⟨h1, h2⟩ := He.ba h
  refine ⟨fun c hc => clfB_ok (List.all_eq_true.mp h1 c hc), fun a ha b hb => ?_⟩
  obtain ⟨q1, q2⟩ := He.ba (List.all_eq_true.mp (List.all_eq_true.mp h2 a ha) b hb)
  exact ⟨of_decide_eq_true q1, q2⟩
/-! ### the hook -/
abbrev AlM : Type := He.AlD × List FnI × Bool
structure SaysM (P : Program) (fa : List He.Fa) (fn : List He.DefD) (xs : List XcD) (cs : List ClD) (tf : List He.Defn) (h : Heap) (K : Frag) : Prop where
  d : He.SaysD fa fn K
  fx : xs.map (fun x => fnI K (x.fI K)) = xs.map XcD.val
  ok : ∀ x ∈ xs, x.ok P K = true
  cl : clsB K cs = true
  hd : ∀ p ∈ tf, codeHdIn K (He.cT K p).1 (He.cT K p).2 = true
  out : ∀ p ∈ tf, K.lookup (He.cT K p).2 = none
  empty : ∀ p ∈ tf, h.get? (He.cT K p).2 = some { cls := .none, data := .fields #[] }
def obsM (P : Program) (n : Nat) (fa : List He.Fa) (fn : List He.DefD) (xs : List XcD) (cs : List ClD) (tf : List He.Defn) (g : Addr → Option Obj) : AlM :=
  (He.obsD fa fn (KM n g), xs.map (fun x => fnI (KM n g) (x.fI (KM n g))), (xs.all fun x => x.ok P (KM n g)) && (clsB (KM n g) cs && He.tabsB g tf (KM n g)))
def valM (fn : List He.DefD) (xs : List XcD) : AlM := (He.valD fn, xs.map XcD.val, true)
theorem saysM_of {P : Program} {n : Nat} {fa : List He.Fa} {fn : List He.DefD} {xs : List XcD} {cs : List ClD} {tf : List He.Defn} {h : Heap} (e : obsM P n fa fn xs cs tf h.get? = valM fn xs) : SaysM P fa fn xs cs tf h (KM n h.get?) := by
  have e1 : He.obsD fa fn (KM n h.get?) = He.valD fn := congrArg (fun z : AlM => z.1) e
  have e2 := congrArg (fun z : AlM => z.2.1) e
  have e3 : ((xs.all fun x => x.ok P (KM n h.get?)) && (clsB (KM n h.get?) cs && He.tabsB h.get? tf (KM n h.get?))) = true := congrArg (fun z : AlM => z.2.2) e
  obtain ⟨h1, h2⟩ := He.ba e3
  obtain ⟨h3, h2⟩ := He.ba h2
  have key : ∀ p ∈ tf, codeHdIn (KM n h.get?) (He.cT (KM n h.get?) p).1 (He.cT (KM n h.get?) p).2 = true ∧ ∃ o, h.get? (He.cT (KM n h.get?) p).2 = some o ∧ He.emptyTab o = true := fun p hp => by
    obtain ⟨a, b⟩ := He.ba (List.all_eq_true.mp h2 p hp)
    refine ⟨a, ?_⟩
    split at b
    · rename_i o q
      exact ⟨o, q, b⟩
    · cases b
  refine ⟨e1, e2, fun x hx => List.all_eq_true.mp h1 x hx, h3, fun p hp => (key p hp).1, fun p hp => ?_, fun p hp => ?_⟩
  · obtain ⟨_, o, q, z⟩ := key p hp
    exact He.frT_none q z
  · obtain ⟨_, o, q, z⟩ := key p hp
    rw [q, He.emptyTab_eq z]
def hookM (P : Program) (n : Nat) (fa : List He.Fa) (fn : List He.DefD) (xs : List XcD) (cs : List ClD) (tf : List He.Defn) : Hook where
  α := AlM
  obs := fun s => obsM P n fa fn xs cs tf s.heap.get?
  val := fun _ => valM fn xs
  says := fun _ h => ∃ K : Frag, K.In h ∧ SaysM P fa fn xs cs tf h K
  of := fun _ _ e => ⟨_, He.frT_in, saysM_of e⟩
  keeps := fun _ _ _ ⟨K, hK, c⟩ k => ⟨K, Frag.In.keeps hK k, ⟨c.d, c.fx, c.ok, c.cl, c.hd, c.out, fun p hp => k _ _ (c.empty p hp)⟩⟩
theorem obsM_eq {P : Program} {n : Nat} {fa : List He.Fa} {fn : List He.DefD} {xs : List XcD} {cs : List ClD} {tf : List He.Defn} {g : Addr → Option Obj} {s : Shared} (h : ∀ a, g a = s.heap.get? a) : obsM P n fa fn xs cs tf g = (hookM P n fa fn xs cs tf).obs s := by
  have e : g = s.heap.get? := funext h
  rw [e] <;> rfl
section
variable {P : Program} {fa : List He.Fa} {fn : List He.DefD} {xs : List XcD} {cs : List ClD} {tf : List He.Defn} {h : Heap} {K : Frag}
/-- the i-th exception class -/
theorem SaysM.xc {mg : Str → Option Value} (c : SaysM P fa fn xs cs tf h K) (i : Nat) {x : XcD} {sf : Str} (T : ExT x.params x.body x.scope sf x.ns) (gm : mg x.cls = some (.ref (He.ga K x.cls))) (sup : mg "super" = none) (top : (P.main.scope.names.lookup ("super" : Str)).isSome = false) (hx : xs[i]? = some x := by rfl) :
    XFact P K mg x.cls x.ns := by
  obtain ⟨h1, h2⟩ := He.ba (c.ok x (List.mem_of_getElem? hx))
  obtain ⟨h2, h3⟩ := He.ba h2
  obtain ⟨h3, h4⟩ := He.ba h3
  have e : (xs.map fun x => fnI K (x.fI K))[i]? = (xs.map XcD.val)[i]? := by rw [c.fx]
  rw [List.getElem?_map, List.getElem?_map, hx] at e
  exact ⟨exkB_ok h1, ⟨x.fI K, sf, x.params, x.body, x.scope, exi_ok h2 (Option.some.inj e), T⟩, fun f hf => He.eqO_ok (List.all_eq_true.mp h3 f hf), gm, xfB_ok h4, sup, top⟩
end
end L2.MX
end
section
set_option Elab.async false
set_option linter.all false
set_option maxRecDepth 100000
/-! MxEn: the end of a law. -/
namespace L2.MX
open PySem PySem.Spec PyProof.Rows
/-- what is asked of the law's def -/
def LawG (l : PySem.W.OpenLaw) (w : World) (K : PySem.W.Frag) (k n : Nat) (x : Str) (mg : Str → Option Value) (fa : Addr) (h : Heap) : Prop :=
  ∃ (fd : FuncData) (cs : List (Addr × Addr)) (sp : Sp), (∀ p ∈ cs, h.get? p.2 = some { cls := .none, data := .fields #[] }) ∧ (∀ p ∈ cs, K.lookup p.2 = none) ∧ (∀ p ∈ cs, PySem.W.CodeHd h p.1 p.2) ∧ (∀ (s : Shared) (u : Value), BindsTo s fd ⟨[u], []⟩ [(x, u)]) ∧
    (∀ (H : Hp) (a : Addr) (ns : List Int), ns.length ≤ n → (∀ p ∈ cs, H p.2 = some (.tbl #[])) → SqL K H a (ns.map V.int) → sp [.ref a] H (fun v _ => v = .bl true) fun _ _ _ => False) ∧
    ∀ base : Heap, K.In base → base.Ns mainGlobals mg → (∀ p ∈ cs, LamX.TabB base mg p.1 p.2) → FnG l.prog w K mg base (L2.CX l.prog w) k fa fd [x] sp
theorem walk_G {l : PySem.W.OpenLaw} {n k : Nat} {q : Program} {loose : List Str} {XP : (Str → Option Value) → Heap → Prop} {YP : World → Heap → Prop} {d : DefRec} {x : Str}
    (hn : l.most = some n) (hn2 : n ≤ sizeLine) (hdf : d.params.defaults = []) (hr : Room k callerA)
    (F : ∀ (w : World) (mg : Str → Option Value) (fa : Addr) (h : Heap), YP w h → h.Ns mainGlobals mg → mg d.name = some (.ref fa) → ∃ K : PySem.W.Frag, K.In h ∧ LawG l w K k n x mg fa h) :
    PySem.W.WalkO q loose XP YP l.row.toRowW d [] (fun f vs => PySem.call f vs) := by
  refine Att.attach_callB hn hdf ?_
  intro w z z0 mg mb fa o pm cd doc a vs ns G Y ho hd hcd hmg hobj hints hlen hbits hg
  obtain ⟨K, KX, fd, cs, sp, hT, nT, C, hb, hsp, hF⟩ := F w mg fa _ Y G.T.g hmg
  exact law_callG KX G.T.g G.T.b G.T.builtins G.T.nolimit hg hT nT C G.T.bmain hobj hints (Nat.le_trans hlen hn2) hr hF hb (fun H hH _ hS => hsp H a ns hlen hH hS)
theorem ref_inj {mg : Str → Option Value} {x : Str} {a b : Addr} (h1 : mg x = some (.ref a)) (h2 : mg x = some (.ref b)) : a = b := by
  rw [h1] at h2
  cases h2
  rfl
section
variable {K : PySem.W.Frag}
/-- the heap without its tables -/
def noTb (H : Hp) : Hp := fun b => match H b with
  | some (.tbl _) => none
  | o => o
theorem noTb_some {H : Hp} {b : Addr} {o : HO} (h : noTb H b = some o) : H b = some o ∧ ∀ ps, o ≠ .tbl ps := by
  unfold noTb at h
  split at h
  · cases h
  · rename_i n
    exact ⟨h, fun ps z => n ps (by rw [h, z])⟩
theorem noTb_of {H : Hp} {b : Addr} {o : HO} (h : H b = some o) (n : ∀ ps, o ≠ .tbl ps) : noTb H b = some o := by
  unfold noTb
  rw [h]
  cases o with
  | tbl ps => exact absurd rfl (n ps)
  | _ => rfl
theorem sqL_noTb {H : Hp} {a : Addr} {vs : List V} (h : SqL K H a vs) : SqL K (noTb H) a vs := by
  rcases h with (e | ⟨o, e⟩) | z
  · exact .inl (.inl (noTb_of e fun _ z => nomatch z))
  · exact .inl (.inr ⟨o, noTb_of e fun _ z => nomatch z⟩)
  · exact .inr z
theorem law_spG [tb : TabT] {fm : List (Str × Addr) → MF} {cs : List (Addr × Addr)} (hT : ∀ p ∈ tb.T, ∃ q ∈ cs, q.2 = p.1) (ht : ∀ (cl : List (Str × Addr)) (ns : List Int), ns.length ≤ 63 → ∃ outs, fm cl [.pl (.flst (ns.map .int))] = .rt (.pl (.bl true)) outs) :
    ∀ (H : Hp) (a : Addr) (ns : List Int), ns.length ≤ 63 → (∀ p ∈ cs, H p.2 = some (.tbl #[])) → SqL K H a (ns.map V.int) → spMC K fm [.ref a] H (fun v _ => v = .bl true) fun _ _ _ => False := fun H a ns hl hc hs cl => by
  obtain ⟨outs, e⟩ := ht cl ns hl
  have rr : Reps K (noTb H) [.flst (ns.map .int)] [V.ref a] := Reps.one ⟨a, ns.map V.int, rfl, sqL_noTb hs, Reps.ints ns⟩
  refine ⟨noTb H, [.pl (.flst (ns.map .int))], plain_rel (fun b o z => (noTb_some z).1) (fun b ps z => (noTb_some z).2 ps rfl) (fun p hp => ?_) rr, ?_⟩
  · obtain ⟨q, hq, e2⟩ := hT p hp
    refine ⟨#[], by rw [← e2]; exact hc q hq, True.intro, fun pos cv z => ?_⟩
    have z : codeAmong pos [] = some cv := z
    simp [codeAmong] at z
  · rw [e]
    intro v G1 H1 _ _ _ q
    exact q
end
end L2.MX
end
section
set_option Elab.async false
set_option linter.all false
set_option maxRecDepth 100000
/-! MxT: what mirrors compute: loops by states, comprehensions, lists of ints by a function. -/
namespace L2.MX
open PySem PySem.Spec PyProof.Rows
local instance tb0 : TabT := ⟨[], []⟩

/-! ### loops -/
/-- one turn -/
def Turn (g : G1) (b : MS) (d : D) (ρ ρ' : Env) : Prop := ∃ ρ1, g d ρ = some ρ1 ∧ (b ρ1 = .nx ρ' ∨ b ρ1 = .ct ρ')
theorem loopF_cons {g : G1} {b : MS} {d : D} {ds : List D} {ρ ρ' : Env} (h : Turn g b d ρ ρ') : loopF g b (d :: ds) ρ = loopF g b ds ρ' := by
  obtain ⟨ρ1, e1, e2⟩ := h
  show (match g d ρ with
    | none => SR.bad
    | some ρ1 => (match b ρ1 with
      | .nx ρ2 => loopF g b ds ρ2
      | .ct ρ2 => loopF g b ds ρ2
      | .br ρ2 => .nx ρ2
      | r => r)) = _
  rw [e1]
  rcases e2 with e2 | e2
  · show (match b ρ1 with
      | .nx ρ2 => loopF g b ds ρ2
      | .ct ρ2 => loopF g b ds ρ2
      | .br ρ2 => .nx ρ2
      | r => r) = _
    rw [e2]
  · show (match b ρ1 with
      | .nx ρ2 => loopF g b ds ρ2
      | .ct ρ2 => loopF g b ds ρ2
      | .br ρ2 => .nx ρ2
      | r => r) = _
    rw [e2]
theorem loopF_brk {g : G1} {b : MS} {d : D} {ds : List D} {ρ ρ1 ρ' : Env} (h : g d ρ = some ρ1) (h2 : b ρ1 = .br ρ') : loopF g b (d :: ds) ρ = .nx ρ' := by
  show (match g d ρ with
    | none => SR.bad
    | some ρ1 => (match b ρ1 with
      | .nx ρ2 => loopF g b ds ρ2
      | .ct ρ2 => loopF g b ds ρ2
      | .br ρ2 => .nx ρ2
      | r => r)) = _
  rw [h]
  show (match b ρ1 with
      | .nx ρ2 => loopF g b ds ρ2
      | .ct ρ2 => loopF g b ds ρ2
      | .br ρ2 => .nx ρ2
      | r => r) = _
  rw [h2]
theorem loopF_eq {g : G1} {b : MS} (En : Nat → Env) : ∀ (ds : List D) (i : Nat), (∀ j d, ds[j]? = some d → Turn g b d (En (i + j)) (En (i + j + 1))) → loopF g b ds (En i) = .nx (En (i + ds.length))
  | [], i, _ => rfl
  | d :: ds, i, h => by
    have h0 := h 0 d rfl
    rw [Nat.add_zero] at h0
    rw [loopF_cons h0, loopF_eq En ds (i + 1) (fun j d' e => by
      have := h (j + 1) d' (by simpa using e)
      rw [show i + (j + 1) = i + 1 + j by omega] at this
      exact this)]
    rw [show i + 1 + ds.length = i + (d :: ds).length by simp; omega]
/-- by an invariant -/
theorem loopF_inv {g : G1} {b : MS} (P : Nat → Env → Prop) : ∀ (ds : List D) (i : Nat) (ρ : Env), P i ρ → (∀ j d ρ, ds[j]? = some d → P (i + j) ρ → ∃ ρ', Turn g b d ρ ρ' ∧ P (i + j + 1) ρ') → ∃ ρ', loopF g b ds ρ = .nx ρ' ∧ P (i + ds.length) ρ'
  | [], i, ρ, p, _ => ⟨ρ, rfl, p⟩
  | d :: ds, i, ρ, p, h => by
    obtain ⟨ρ1, t, p1⟩ := h 0 d ρ rfl p
    obtain ⟨ρ2, e2, p2⟩ := loopF_inv P ds (i + 1) ρ1 p1 fun j d' ρ e q => by
      have := h (j + 1) d' ρ (by simpa using e) (by rw [show i + (j + 1) = i + 1 + j by omega]; exact q)
      rw [show i + (j + 1) = i + 1 + j by omega] at this
      exact this
    refine ⟨ρ2, ?_, by rw [show i + (d :: ds).length = i + 1 + ds.length by simp; omega]; exact p2⟩
    rw [loopF_cons t, e2]
/-- while: the test holds n times, then no more -/
theorem loopW_eq {c : MT} {b : MS} (En : Nat → Env) : ∀ (n i fuel : Nat), n < fuel → (∀ j, j < n → c (En (i + j)) = .ok true (En (i + j)) ∧ (b (En (i + j)) = .nx (En (i + j + 1)))) → c (En (i + n)) = .ok false (En (i + n)) → loopW c b fuel (En i) = .nx (En (i + n))
  | 0, i, 0, h, _, _ => by omega
  | 0, i, fuel + 1, _, _, e => by
    rw [loopW_succ]
    rw [Nat.add_zero] at e
    rw [e]
    rfl
  | n + 1, i, 0, h, _, _ => by omega
  | n + 1, i, fuel + 1, h, ht, e => by
    obtain ⟨h1, h2⟩ := ht 0 (by omega)
    rw [Nat.add_zero] at h1 h2
    rw [loopW_succ, h1]
    show (match b (En i) with
      | .nx ρ2 => loopW c b fuel ρ2
      | .ct ρ2 => loopW c b fuel ρ2
      | .br ρ2 => .nx ρ2
      | r => r) = _
    rw [h2]
    show loopW c b fuel (En (i + 1)) = _
    rw [loopW_eq En n (i + 1) fuel (by omega) (fun j hj => by
      have := ht (j + 1) (by omega)
      rw [show i + (j + 1) = i + 1 + j by omega] at this
      exact this) (by rw [show i + 1 + n = i + (n + 1) by omega]; exact e)]
    rw [show i + 1 + n = i + (n + 1) by omega]

/-! ### comprehensions whose turns leave the slots as they are -/
/-- what one turn gives: nothing (the test fails), or a value -/
def CTurn (g : G1) (vs : List Nat) (t : MT) (e : M) (ρ : Env) (d : D) (r : Option D) : Prop := ∃ ρ1 ρ2, g d ρ = some ρ1 ∧ match r with
  | none => t ρ1 = .ok false ρ2 ∧ wipeC vs ρ2 = ρ
  | some x => t ρ1 = .ok true ρ2 ∧ ∃ rv ρ3, e ρ2 = .ok rv ρ3 ∧ rv.d = x ∧ wipeC vs ρ3 = ρ
theorem loopC_pure {g : G1} {vs : List Nat} {t : MT} {e : M} {ρ : Env} (F : D → Option D) : ∀ (ds : List D) (acc : List D), acc.length + ds.length ≤ lineN → (∀ d ∈ ds, CTurn g vs t e ρ d (F d)) → loopC g vs t e ds ρ acc = .ok (acc ++ ds.filterMap F) ρ
  | [], acc, _, _ => by simp [loopC]
  | d :: ds, acc, hl, h => by
    obtain ⟨ρ1, ρ2, e1, h1⟩ := h d List.mem_cons_self
    have hd : ∀ x ∈ ds, CTurn g vs t e ρ x (F x) := fun x hx => h x (List.mem_cons_of_mem _ hx)
    have hl' : acc.length + ds.length + 1 ≤ lineN := by simpa [Nat.add_assoc] using hl
    unfold loopC
    rw [e1]
    cases q : F d with
    | none =>
      rw [q] at h1
      obtain ⟨h1, h2⟩ := h1
      simp only [h1]
      rw [h2, loopC_pure F ds acc (by omega) hd]
      simp [q]
    | some x =>
      rw [q] at h1
      obtain ⟨h1, rv, ρ3, h2, h3, h4⟩ := h1
      simp only [h1, h2]
      rw [if_pos (by omega), h4, h3, loopC_pure F ds _ (by rw [List.length_append]; simp; omega) hd]
      simp [q]
theorem wipeC_set {vs : List Nat} : ∀ {ρ : Env}, wipeC vs (wipeC vs ρ) = wipeC vs ρ := fun {ρ} => by
  apply List.ext_getElem?
  intro j
  rw [wipeC_get, wipeC_get]
  cases ρ[j]? with
  | none => rfl
  | some c =>
    show some _ = some _
    congr 1
    by_cases hj : j ∈ vs <;> simp [hj]
theorem backC_wipe (vs : List Nat) (ρ : Env) : backC vs ρ (wipeC vs ρ) = ρ := by
  apply List.ext_getElem?
  intro j
  unfold backC
  rw [List.getElem?_mapIdx, wipeC_get]
  cases q : ρ[j]? with
  | none => rfl
  | some c =>
    show some _ = some _
    congr 1
    by_cases hj : j ∈ vs <;> simp [hj]
theorem mLc_pure {mi : MIt} {g : G1} {vs : List Nat} {t : MT} {e : M} {ρ ρ1 : Env} {ds : List D} (F : D → Option D) (hi : mi ρ = .ok ds ρ1) (hf : vs.all (freeAt ρ1) = true) (hl : ds.length ≤ lineN) (h : ∀ d ∈ ds, CTurn g vs t e (wipeC vs ρ1) d (F d)) :
    mLc mi g vs t e ρ = .ok (.fr (.lst (ds.filterMap F))) ρ1 := by
  unfold mLc
  rw [hi]
  show (if vs.all (freeAt ρ1) = true then _ else _) = _
  rw [if_pos hf, loopC_pure F ds [] (by simpa using hl) h]
  show ER.ok _ _ = _
  rw [backC_wipe]
  rfl

/-! ### lists of ints by a function -/
def sqD (n : Nat) (f : Nat → Int) : List D := (List.range n).map fun i => .int (f i)
theorem sq_len (n : Nat) (f : Nat → Int) : (sqD n f).length = n := by simp [sqD]
theorem sq_get {n i : Nat} (f : Nat → Int) (h : i < n) : (sqD n f)[i]? = some (.int (f i)) := by
  unfold sqD
  rw [List.getElem?_map, List.getElem?_range h]
  rfl
theorem ixN_nat {n i : Nat} (h : i < n) : ixN n (i : Int) = some i := by
  unfold ixN
  rw [if_pos (by omega), if_pos (by omega)]
  rfl
theorem sq_atI {n i : Nat} (f : Nat → Int) (h : i < n) : atI (sqD n f) (i : Int) = some (.int (f i)) := by
  unfold atI
  rw [sq_len, ixN_nat h]
  exact sq_get f h
theorem sq_congr {n : Nat} {f g : Nat → Int} (h : ∀ i, i < n → f i = g i) : sqD n f = sqD n g := by
  unfold sqD
  refine List.map_congr_left fun i hi => ?_
  rw [h i (List.mem_range.mp hi)]
def updF (f : Nat → Int) (p : Nat) (x : Int) : Nat → Int := fun n => if n = p then x else f n
theorem sq_set {n p : Nat} (f : Nat → Int) (x : Int) : (sqD n f).set p (.int x) = sqD n (updF f p x) := by
  apply List.ext_getElem?
  intro j
  by_cases hj : j < n
  · rw [sq_get _ hj]
    by_cases hp : p = j
    · subst hp
      rw [List.getElem?_set_self (by rw [sq_len]; exact hj)]
      simp [updF]
    · rw [List.getElem?_set_ne hp, sq_get _ hj]
      simp [updF, Ne.symm hp]
  · rw [List.getElem?_eq_none (by rw [List.length_set, sq_len]; omega), List.getElem?_eq_none (by rw [sq_len]; omega)]
theorem sq_snoc (n : Nat) (f : Nat → Int) : sqD n f ++ [.int (f n)] = sqD (n + 1) f := by
  unfold sqD
  rw [List.range_succ, List.map_append]
  rfl
theorem sq_rep (n : Nat) (x : Int) : (List.replicate n [D.int x]).flatten = sqD n fun _ => x := by
  induction n with
  | zero => rfl
  | succ n ih =>
    rw [List.replicate_succ', List.flatten_append, ih]
    show sqD n (fun _ => x) ++ [D.int x] = _
    exact sq_snoc n fun _ => x
theorem range_sq (n : Nat) : rangeD 0 1 n = sqD n fun i => (i : Int) := by
  unfold rangeD sqD
  refine List.map_congr_left fun i _ => ?_
  simp
theorem rangeD_get {lo c : Int} {n i : Nat} {d : D} (h : (rangeD lo c n)[i]? = some d) : i < n ∧ d = .int (lo + (i : Nat) * c) := by
  unfold rangeD at h
  rw [List.getElem?_map] at h
  obtain ⟨k, e1, e2⟩ := Option.map_eq_some_iff.mp h
  have hk := (List.getElem?_eq_some_iff.mp e1).1
  rw [List.getElem?_range (by simpa using hk)] at e1
  cases e1
  exact ⟨by simpa using hk, e2.symm⟩
theorem rangeD_len (lo c : Int) (n : Nat) : (rangeD lo c n).length = n := by simp [rangeD]
theorem ints_sq (n : Nat) (f : Nat → Int) : intsOf (sqD n f) = some ((List.range n).map f) := by
  unfold sqD
  generalize List.range n = l
  induction l with
  | nil => rfl
  | cons a l ih =>
    show (intsOf (l.map fun i => D.int (f i))).map (fun ns => f a :: ns) = _
    rw [ih]
    rfl

/-! ### step by step -/
theorem sSeq_nx {a b : MS} {ρ ρ1 : Env} {r : SR} (h : a ρ = .nx ρ1) (k : b ρ1 = r) : sSeq a b ρ = r := by
  unfold sSeq
  rw [h]
  exact k
theorem sSeq_rt {a b : MS} {ρ ρ1 : Env} {x : RV} (h : a ρ = .rt x ρ1) : sSeq a b ρ = .rt x ρ1 := by
  unfold sSeq
  rw [h]
theorem sIf_of {c : MT} {a b : MS} {ρ ρ1 : Env} {k : Bool} {r : SR} (h : c ρ = .ok k ρ1) (h1 : k = true → a ρ1 = r) (h2 : k = false → b ρ1 = r) : sIf c a b ρ = r := by
  unfold sIf ofT
  rw [h]
  cases k with
  | true => exact h1 rfl
  | false => exact h2 rfl
theorem sFor_of {mi : MIt} {g : G1} {b : MS} {ρ ρ1 : Env} {ds : List D} {r : SR} (hi : mi ρ = .ok ds ρ1) (hl : loopF g b ds ρ1 = r) : sFor mi g b ρ = r := by
  unfold sFor ofI
  rw [hi]
  exact hl
theorem sSet_of {i : Nat} {m : M} {ρ ρ1 ρ2 : Env} {r : RV} (h : m ρ = .ok r ρ1) (hp : putC i r ρ1 = some ρ2) : sSet i m ρ = .nx ρ2 := by
  unfold sSet ofE
  rw [h]
  simp only [hp]
theorem sRet_of {m : M} {ρ ρ1 : Env} {r : RV} (h : m ρ = .ok r ρ1) : sRet m ρ = .rt r ρ1 := by
  unfold sRet ofE
  rw [h]
theorem mOp_of {f : Fn2} {a b : MO} {ρ ρ1 ρ2 : Env} {o p : Opd} {d1 d2 : D} {r : RV} (ha : a ρ = .ok o ρ1) (hb : b ρ1 = .ok p ρ2) (h1 : o.get ρ2 = some d1) (h2 : p.get ρ2 = some d2) (hf : f d1 d2 = some r) : mOp f a b ρ = .ok r ρ2 := by
  unfold mOp bindM
  simp only [ha, hb, ap2, h1, h2, hf]
theorem oVal_of {m : M} {ρ ρ1 : Env} {r : RV} (h : m ρ = .ok r ρ1) : oVal m ρ = .ok (.val r.d) ρ1 := by
  unfold oVal bindM
  rw [h]
theorem oVar_pl {i : Nat} {ρ : Env} {d : D} (h : ρ[i]? = some (.pl d)) : oVar i ρ = .ok (.slot i) ρ := by
  unfold oVar
  rw [h]
theorem get_slot {i : Nat} {ρ : Env} {d : D} (h : ρ[i]? = some (.pl d)) : (Opd.slot i).get ρ = some d := by
  show (ρ[i]?).bind Cell.get = some d
  rw [h]
  rfl
theorem mtB_of {m : M} {ρ ρ1 : Env} {b : Bool} (h : m ρ = .ok (.pl (.bl b)) ρ1) : mtB m ρ = .ok b ρ1 := by
  unfold mtB bindM
  rw [h]
  rfl
theorem mAc_of {m : MO} {ms : MA} {ρ ρ1 ρ2 : Env} {o : Opd} {os : List Opd} (h : m ρ = .ok o ρ1) (h2 : ms ρ1 = .ok os ρ2) : mAc m ms ρ = .ok (o :: os) ρ2 := by
  unfold mAc bindM
  simp only [h, h2]
theorem mUn_of {f : D → Option RV} {a : MO} {ρ ρ1 : Env} {o : Opd} {d : D} {r : RV} (h : a ρ = .ok o ρ1) (hd : o.get ρ1 = some d) (hf : f d = some r) : mUn f a ρ = .ok r ρ1 := by
  unfold mUn bindM
  simp only [h, ap1, hd, hf]
theorem mRc_of {m : M} {ms : MR} {ρ ρ1 ρ2 : Env} {r : RV} {rs : List RV} (h : m ρ = .ok r ρ1) (h2 : ms ρ1 = .ok rs ρ2) : mRc m ms ρ = .ok (r :: rs) ρ2 := by
  unfold mRc bindM
  simp only [h, h2]
theorem sPar_of {is : List Nat} {m : MR} {ρ ρ1 ρ2 : Env} {rs : List RV} (h : m ρ = .ok rs ρ1) (hp : putAll is rs ρ1 = some ρ2) : sPar is m ρ = .nx ρ2 := by
  unfold sPar ofR
  simp only [h, hp]
theorem mLst0 (ρ : Env) : mLst mA0 ρ = .ok (.fr (.lst [])) ρ := by
  unfold mLst mA0 bindM
  simp only [vals, List.length_nil]
  rw [if_pos (by omega)]
theorem sAugIx_of {i : Nat} {mk me : M} {f : Fn2} {ρ : Env} {ds : List D} {z : Int} {d d2 : D} {r : RV} {j : Nat} (ho : ownedAt ρ i = some (.lst ds)) (hk : mk ρ = .ok (.pl (.int z)) ρ) (ha : atI ds z = some d) (hm : me ρ = .ok r ρ) (hf : f d r.d = some (.pl d2)) (hj : ixN ds.length z = some j) :
    sAugIx i mk f me ρ = .nx (setOwn ρ i (.lst (ds.set j d2))) := by
  unfold sAugIx ofE
  simp only [ho, isLst, if_true, hk, ha, hm, RV.d] at hf ⊢
  simp only [RV.d, hf, putIx, ho, hj, Option.map_some]
theorem sSetIx_of {i : Nat} {mk me : M} {ρ : Env} {ds : List D} {z : Int} {r : RV} {j : Nat} (ho : ownedAt ρ i = some (.lst ds)) (hm : me ρ = .ok r ρ) (hk : mk ρ = .ok (.pl (.int z)) ρ) (hj : ixN ds.length z = some j) :
    sSetIx i mk me ρ = .nx (setOwn ρ i (.lst (ds.set j r.d))) := by
  unfold sSetIx ofE
  simp only [hm, ho, Option.isSome_some, if_true, hk, RV.d, putIx, hj, Option.map_some]
theorem sApp_of {i : Nat} {me : M} {ρ ρ1 : Env} {ds0 ds : List D} {r : RV} (h0 : ownedAt ρ i = some (.lst ds0)) (hm : me ρ = .ok r ρ1) (h1 : ownedAt ρ1 i = some (.lst ds)) (hl : ds.length < lineN) : sApp i me ρ = .nx (setOwn ρ1 i (.lst (ds ++ [r.d]))) := by
  unfold sApp ofE
  simp only [h0, isLst, if_true, hm, appTo, h1, hl]
theorem mDef_rt {n l : Nat} {b : MS} {args : Env} {r : RV} {ρ : Env} (h : b (args ++ List.replicate l .un) = .rt r ρ) (hn : args.length = n := by rfl) : mDef n l b args = .rt r (outsOf n ρ) := by
  unfold mDef
  rw [if_pos hn, h]
  rfl
theorem mDef_nx {n l : Nat} {b : MS} {args : Env} {ρ : Env} (h : b (args ++ List.replicate l .un) = .nx ρ) (hn : args.length = n := by rfl) : mDef n l b args = .rt (.pl .non) (outsOf n ρ) := by
  unfold mDef
  rw [if_pos hn, h]
  rfl
theorem mtNot_of {a : MT} {ρ ρ1 : Env} {c : Bool} (h : a ρ = .ok c ρ1) : mtNot a ρ = .ok (!c) ρ1 := by
  unfold mtNot bindM
  rw [h]
theorem mtOr_f {a b : MT} {ρ ρ1 : Env} {r : ER Bool} (h : a ρ = .ok false ρ1) (hb : b ρ1 = r) : mtOr a b ρ = r := by
  unfold mtOr bindM
  rw [h]
  exact hb
theorem mtOr_t {a b : MT} {ρ ρ1 : Env} (h : a ρ = .ok true ρ1) : mtOr a b ρ = .ok true ρ1 := by
  unfold mtOr bindM
  rw [h]
  rfl
theorem mtAnd_t {a b : MT} {ρ ρ1 : Env} {r : ER Bool} (h : a ρ = .ok true ρ1) (hb : b ρ1 = r) : mtAnd a b ρ = r := by
  unfold mtAnd bindM
  rw [h]
  exact hb
theorem mtAnd_f {a b : MT} {ρ ρ1 : Env} (h : a ρ = .ok false ρ1) : mtAnd a b ρ = .ok false ρ1 := by
  unfold mtAnd bindM
  rw [h]
  rfl
theorem mIf_t {c : MT} {a b : M} {ρ ρ1 : Env} {r : ER RV} (h : c ρ = .ok true ρ1) (ha : a ρ1 = r) : mIf c a b ρ = r := by
  unfold mIf bindM
  rw [h]
  exact ha
theorem mIf_f {c : MT} {a b : M} {ρ ρ1 : Env} {r : ER RV} (h : c ρ = .ok false ρ1) (hb : b ρ1 = r) : mIf c a b ρ = r := by
  unfold mIf bindM
  rw [h]
  exact hb
theorem mCallP_of {dfl : List D} {fm : MF} {args : MA} {ρ ρ1 : Env} {os : List Opd} {cs outs : Env} {r : RV} (h : args ρ = .ok os ρ1) (hp : plainsOf ρ1 os = some cs) (hf : fm (cs ++ dfl.map Cell.pl) = .rt r outs) : mCallP dfl fm args ρ = .ok r ρ1 := by
  unfold mCallP bindM
  rw [h]
  simp only [hp, hf]
theorem mCallQ_of {dfl : List D} {fm : MF} {args : MA} {ρ ρ1 : Env} {i : Nat} {os : List Opd} {cs outs : Env} {r : RV} {d d' : D} (h : args ρ = .ok (.slot i :: os) ρ1) (hp : plainsOf ρ1 os = some cs) (ho : ownedAt ρ1 i = some d) (hf : fm (.io d :: (cs ++ dfl.map Cell.pl)) = .rt r (.io d' :: outs)) :
    mCallQ dfl fm args ρ = .ok r (setOwn ρ1 i d') := by
  unfold mCallQ bindM
  rw [h]
  simp only [hp, ho, hf]
theorem mCall_of {f : List D → Option RV} {args : MA} {ρ ρ1 : Env} {os : List Opd} {ds : List D} {r : RV} (h : args ρ = .ok os ρ1) (hg : getAll ρ1 os = some ds) (hf : f ds = some r) : mCall f args ρ = .ok r ρ1 := by
  unfold mCall bindM
  rw [h]
  simp only [apL, hg, hf]
theorem iR1_of {ma : MA} {ρ ρ1 : Env} {os : List Opd} {j : Int} (h : ma ρ = .ok os ρ1) (hg : getAll ρ1 os = some [.int j]) (hj : smallR j = true) : iRangeN 1 ma ρ = .ok (rangeD 0 1 j.toNat) ρ1 := by
  have hl := getAll_len hg
  unfold iRangeN bindM
  rw [h]
  simp only [hg, hj, hl, List.length_cons, List.length_nil, if_true]
theorem iR2_of {ma : MA} {ρ ρ1 : Env} {os : List Opd} {i j : Int} (h : ma ρ = .ok os ρ1) (hg : getAll ρ1 os = some [.int i, .int j]) (hi : smallR i = true) (hj : smallR j = true) : iRangeN 2 ma ρ = .ok (rangeD i 1 (j - i).toNat) ρ1 := by
  have hl := getAll_len hg
  unfold iRangeN bindM
  rw [h]
  simp only [hg, hi, hj, hl, List.length_cons, List.length_nil, if_true, Bool.and_self]
theorem iSeq_of {m : M} {ρ ρ1 : Env} {r : RV} {ds : List D} (h : m ρ = .ok r ρ1) (hd : itemsOf r.d = some ds) : iSeq m ρ = .ok ds ρ1 := by
  unfold iSeq bindM
  rw [h]
  simp only [hd]

/-- how many: range(i, j, c) -/
def rn3 (i j c : Nat) : Nat := if i < j then (j - i - 1) / c + 1 else 0
theorem rn3_iff {i j c t : Nat} (hc : 0 < c) : t < rn3 i j c ↔ i + t * c < j := by
  unfold rn3
  by_cases h : i < j
  · rw [if_pos h]
    constructor
    · intro ht
      have h1 : t ≤ (j - i - 1) / c := by omega
      have h2 := (Nat.le_div_iff_mul_le hc).mp h1
      omega
    · intro ht
      have h1 : t * c ≤ j - i - 1 := by omega
      have h2 := (Nat.le_div_iff_mul_le hc).mpr h1
      omega
  · rw [if_neg h]
    constructor
    · intro ht; omega
    · intro ht
      have : i ≤ i + t * c := Nat.le_add_right _ _
      omega
theorem iR3_of {ma : MA} {ρ ρ1 : Env} {os : List Opd} {i j c : Nat} (h : ma ρ = .ok os ρ1) (hg : getAll ρ1 os = some [.int i, .int j, .int c]) (hi : i ≤ 1000000) (hj : j ≤ 1000000) (hc : 0 < c) (hc2 : c ≤ 1000000) : iRangeN 3 ma ρ = .ok (rangeD i c (rn3 i j c)) ρ1 := by
  have hl := getAll_len hg
  have hsz : Builtin.Range.rangeSize i j c = ((rn3 i j c : Nat) : Int) := by
    unfold Builtin.Range.rangeSize rn3
    rw [if_pos (by omega)]
    by_cases hij : i < j
    · rw [if_pos (by omega), if_pos hij]
      have : ((j : Int) - i - 1) = ((j - i - 1 : Nat) : Int) := by omega
      rw [this]
      rfl
    · rw [if_neg (by omega), if_neg hij]
      rfl
  have hcnt : rn3 i j c ≤ 1000000 := by
    have h0 := rn3_iff (i := i) (j := j) (c := c) (t := rn3 i j c - 1) hc
    by_cases hz : rn3 i j c = 0
    · omega
    · have h1 := h0.mp (by omega)
      have h2 : rn3 i j c - 1 ≤ (rn3 i j c - 1) * c := Nat.le_mul_of_pos_right _ hc
      omega
  have fl : ∀ z : Int, -2000000 ≤ z → z ≤ 2000000 → Builtin.Range.rangeFitsLong z = true := fun z h1 h2 => by
    unfold Builtin.Range.rangeFitsLong
    first
      | (simp only [Bool.and_eq_true, decide_eq_true_eq]; omega)
      | (unfold fitsSsize; simp; omega)
      | (simp; omega)
  have hsm : Builtin.Range.small i j c = true := by
    unfold Builtin.Range.small
    rw [fl i (by omega) (by omega), fl j (by omega) (by omega), fl c (by omega) (by omega), hsz, fl _ (by omega) (by omega), if_pos (by omega), fl _ (by omega) (by omega)]
    simp
  have h1 : decide ((0 : Int) < (c : Int)) = true := decide_eq_true (by omega)
  have h2 : decide ((c : Int) < 1000000000) = true := decide_eq_true (by omega)
  have h3 : decide ((0 : Int) ≤ Builtin.Range.rangeSize i j c) = true := decide_eq_true (by rw [hsz]; omega)
  unfold iRangeN bindM
  rw [h]
  simp only [hg, hl, List.length_cons, List.length_nil, h1, h2, h3, hsm, Bool.and_self, if_true]
  rw [hsz]
  rfl
/-- a cell that holds plain data or nothing -/
def pc (c : Cell) : Prop := c = .un ∨ ∃ d, c = .pl d
theorem pc_un : pc .un := .inl rfl
theorem pc_pl (d : D) : pc (.pl d) := .inr ⟨d, rfl⟩
theorem io_un : isIo (some Cell.un) = false := rfl
theorem io_pl (d : D) : isIo (some (Cell.pl d)) = false := rfl
theorem io_ow (d : D) : isIo (some (Cell.ow d)) = false := rfl
theorem pc_io {c : Cell} (h : pc c) : isIo (some c) = false := by
  rcases h with rfl | ⟨d, rfl⟩ <;> rfl
def smallN (N : Nat) : Prop := N ≤ 100000
theorem smallR_nat {N : Nat} (h : smallN N) : smallR (N : Int) = true := by
  unfold smallN at h
  exact smallR_iff.mpr (by omega)
def prD (q : Nat × Int) : D := .tup [.int q.1, .int q.2]

/-- for k in range(d, N, d): xs[k] += h(k) -/
theorem mult_loop {g : G1} {b : MS} {N d : Nat} (hd : 0 < d) (E : List D → Cell → Env) (h F : Nat → Int) (ht : ∀ (k : Nat) (G : Nat → Int) (c : Cell), k < N → d ∣ k → d ≤ k → pc c → Turn g b (.int k) (E (sqD N G) c) (E (sqD N (updF G k (G k + h k))) (.pl (.int k)))) {c : Cell} (hc : pc c) :
    ∃ c', pc c' ∧ loopF g b (rangeD d d (rn3 d N d)) (E (sqD N F) c) = .nx (E (sqD N fun m => F m + if d ∣ m ∧ d ≤ m then h m else 0) c') := by
  let cl : Nat → Cell := fun j => match j with
    | 0 => c
    | j + 1 => .pl (.int ((d + j * d : Nat) : Int))
  have hcl : ∀ j, pc (cl j) := fun j => by
    cases j with
    | zero => exact hc
    | succ j => exact pc_pl _
  let G : Nat → Nat → Int := fun t m => F m + if d ∣ m ∧ d ≤ m ∧ m < d + t * d then h m else 0
  have e0 : sqD N F = sqD N (G 0) := sq_congr fun i _ => by
    show F i = F i + if d ∣ i ∧ d ≤ i ∧ i < d + 0 * d then h i else 0
    rw [if_neg (by omega), Int.add_zero]
  have e1 : sqD N (G (rn3 d N d)) = sqD N fun m => F m + if d ∣ m ∧ d ≤ m then h m else 0 := sq_congr fun i hi => by
    show (F i + if d ∣ i ∧ d ≤ i ∧ i < d + rn3 d N d * d then h i else 0) = F i + if d ∣ i ∧ d ≤ i then h i else 0
    by_cases hi2 : d ∣ i ∧ d ≤ i
    · have : i < d + rn3 d N d * d := by
        have hn := (not_congr (rn3_iff (i := d) (j := N) (c := d) (t := rn3 d N d) hd)).mp (by omega)
        omega
      rw [if_pos ⟨hi2.1, hi2.2, this⟩, if_pos hi2]
    · rw [if_neg (fun z => hi2 ⟨z.1, z.2.1⟩), if_neg hi2]
  refine ⟨cl (rn3 d N d), hcl _, ?_⟩
  rw [e0, ← e1]
  have key := loopF_eq (g := g) (b := b) (fun t => E (sqD N (G t)) (cl t)) (rangeD d d (rn3 d N d)) 0 fun j x hx => by
    obtain ⟨hj, rfl⟩ := rangeD_get hx
    rw [Nat.zero_add]
    have hlt := (rn3_iff (i := d) (j := N) (c := d) (t := j) hd).mp hj
    have e2 : (d : Int) + (j : Nat) * (d : Int) = ((d + j * d : Nat) : Int) := by simp
    rw [e2]
    have t := ht (d + j * d) (G j) (cl j) hlt ⟨j + 1, by rw [Nat.mul_add, Nat.mul_comm]; omega⟩ (Nat.le_add_right _ _) (hcl j)
    have e3 : sqD N (updF (G j) (d + j * d) (G j (d + j * d) + h (d + j * d))) = sqD N (G (j + 1)) := sq_congr fun i hi => by
      show (if i = d + j * d then (F (d + j * d) + if d ∣ d + j * d ∧ d ≤ d + j * d ∧ d + j * d < d + j * d then h (d + j * d) else 0) + h (d + j * d) else F i + if d ∣ i ∧ d ≤ i ∧ i < d + j * d then h i else 0) = F i + if d ∣ i ∧ d ≤ i ∧ i < d + (j + 1) * d then h i else 0
      have hs : (j + 1) * d = j * d + d := by rw [Nat.add_mul, Nat.one_mul]
      by_cases hi : i = d + j * d
      · subst hi
        rw [if_pos rfl, if_neg (by omega), if_pos ⟨⟨j + 1, by rw [Nat.mul_add, Nat.mul_comm]; omega⟩, by omega, by omega⟩, Int.add_zero]
      · rw [if_neg hi]
        by_cases h2 : d ∣ i ∧ d ≤ i ∧ i < d + j * d
        · rw [if_pos h2, if_pos ⟨h2.1, h2.2.1, by omega⟩]
        · rw [if_neg h2, if_neg]
          rintro ⟨⟨q, rfl⟩, a1, a2⟩
          refine h2 ⟨⟨q, rfl⟩, a1, ?_⟩
          have hq : q < j + 2 := by
            have : d * q < d * (j + 2) := by rw [Nat.mul_add, Nat.mul_comm d j]; omega
            exact Nat.lt_of_mul_lt_mul_left this
          have hq2 : q ≠ j + 1 := fun z => hi (by rw [z, Nat.mul_add, Nat.mul_comm]; omega)
          have hq3 : q ≤ j := by omega
          have : d * q ≤ d * j := Nat.mul_le_mul_left d hq3
          rw [Nat.mul_comm d j] at this
          omega
    rw [e3] at t
    exact t
  rw [rangeD_len, Nat.zero_add] at key
  exact key

/-- [h(i) for i in range(..)] -/
theorem mLc_rg {mi : MIt} {g : G1} {vs : List Nat} {t : MT} {e : M} {ρ ρ1 : Env} {lo : Int} {n : Nat} {h : Nat → Int} (hi : mi ρ = .ok (rangeD lo 1 n) ρ1) (hf : vs.all (freeAt ρ1) = true) (hl : n ≤ lineN) (ht : ∀ i, i < n → CTurn g vs t e (wipeC vs ρ1) (.int (lo + (i : Nat) * 1)) (some (.int (h i)))) :
    mLc mi g vs t e ρ = .ok (.fr (.lst (sqD n h))) ρ1 := by
  let F : D → Option D := fun d => match d with
    | .int z => some (.int (h (z - lo).toNat))
    | _ => none
  have hF : ∀ i : Nat, F (.int (lo + (i : Nat) * 1)) = some (.int (h i)) := fun i => by
    show some (D.int (h (lo + (i : Int) * 1 - lo).toNat)) = _
    rw [show (lo + (i : Int) * 1 - lo).toNat = i by omega]
  have e1 : (rangeD lo 1 n).filterMap F = sqD n h := by
    unfold rangeD sqD
    rw [List.filterMap_map, ← List.filterMap_eq_map]
    congr 1
    funext i
    exact hF i
  rw [mLc_pure F hi hf (by rw [rangeD_len]; exact hl) (fun d hd => ?_), e1]
  obtain ⟨j, hj⟩ := List.mem_iff_getElem?.mp hd
  obtain ⟨hlt, rfl⟩ := rangeD_get hj
  rw [hF]
  exact ht j hlt
/-- one item into an owned list -/
theorem sum_sq (n : Nat) (h : Nat → Int) : dSum [.lst (sqD n h)] = some (.pl (.int (((List.range n).map h).sum))) := by
  show (intsOf (sqD n h)).bind (fun ns => pI ns.sum) = _
  rw [ints_sq]
  rfl
end L2.MX
end
section
set_option Elab.async false
set_option linter.all false
set_option maxRecDepth 100000
set_option maxHeartbeats 4000000
namespace L2.MX.Lw
open PySem PySem.Spec PyProof.Rows
/-! ### the text -/
def top (i : Nat) : Stmt := PySem.Challenge.pw_productrows_k05_whole_rooms.main.body.getD i (.Pass ⟨0, 0, 0, 0⟩)
def kidsE : Expr → List Expr
  | .BoolOp _ vs _ => vs
  | .BinOp a _ b _ => [a, b]
  | .UnaryOp _ a _ => [a]
  | .IfExp a b c _ => [a, b, c]
  | .Compare a _ bs _ => a :: bs
  | .Call f as _ _ => f :: as
  | .Attribute v _ _ => [v]
  | .Subscript a b _ => [a, b]
  | .List es _ => es
  | .Tuple es _ _ => es
  | .Dict _ vs _ => vs
  | _ => []
def headS : Stmt → List Expr
  | .Assign _ v _ => [v]
  | .AugAssign _ _ v _ => [v]
  | .Expr v _ => [v]
  | .Return (some v) _ => [v]
  | .If c _ _ _ => [c]
  | .While c _ _ _ => [c]
  | .For _ i _ _ _ => [i]
  | _ => []
def kidsS : Stmt → List Stmt
  | .If _ a b _ => a ++ b
  | .While _ a b _ => a ++ b
  | .For _ _ a b _ => a ++ b
  | .ClassDef _ _ _ b _ _ _ _ _ _ _ => b
  | _ => []
def stAt : List Stmt → List Nat → Stmt
  | l, [] => l.getD 0 (.Pass ⟨0, 0, 0, 0⟩)
  | l, [i] => l.getD i (.Pass ⟨0, 0, 0, 0⟩)
  | l, i :: is => stAt (kidsS (l.getD i (.Pass ⟨0, 0, 0, 0⟩))) is
def exAt (e : Expr) : List Nat → Expr
  | [] => e
  | i :: is => exAt ((kidsE e).getD i e) is
def exOf (s : Stmt) : List Nat → Expr
  | [] => .Name "none" ⟨0, 0, 0, 0⟩
  | i :: is => exAt ((headS s).getD i (.Name "none" ⟨0, 0, 0, 0⟩)) is
def lamOf (q : Str) (s : Stmt) : Expr → LamT
  | .Lambda a b sc _ => ⟨a, b, sc, q⟩
  | e => ⟨defArgs s, e, defScope s, q⟩
def tryHs : List Stmt → List ExceptHandler
  | [.Try _ hs _ _ _] => hs
  | _ => []
abbrev s__law_pen : Stmt := top 20
abbrev s__law_draw : Stmt := top 21
abbrev s__law_pick : Stmt := top 22
abbrev s__law_isqrt : Stmt := top 23
abbrev s__law_square_out : Stmt := top 24
abbrev s__law_conductor : Stmt := top 25
abbrev s__law_due : Stmt := top 27
abbrev s__law_complaint : Stmt := top 26
abbrev s_is_integer : Stmt := top 6
abbrev s_is_level : Stmt := top 14
abbrev s_square_free_of : Stmt := top 8
abbrev s_conductor_of : Stmt := top 9
abbrev s_is_sign : Stmt := top 15
abbrev s_Room_m___init__ : Stmt := (kidsS (top 13)).getD 0 (.Pass ⟨0, 0, 0, 0⟩)
abbrev s_Room_m___eq__ : Stmt := (kidsS (top 13)).getD 1 (.Pass ⟨0, 0, 0, 0⟩)
abbrev s_need_room : Stmt := top 16
abbrev s_need_multiple : Stmt := top 17
abbrev s_room_at : Stmt := top 18
abbrev s_law : Stmt := top 28
abbrev sx_BadRoom : Stmt := (kidsS (top 4)).getD 0 (.Pass ⟨0, 0, 0, 0⟩)
abbrev sx_BadItem : Stmt := (kidsS (top 3)).getD 0 (.Pass ⟨0, 0, 0, 0⟩)
abbrev sx_BadNumber : Stmt := (kidsS (top 2)).getD 0 (.Pass ⟨0, 0, 0, 0⟩)
/-! ### what the defs do -/
def CL : List ClD := [⟨"Room", ["level", "weight", "sign"], true⟩]
def lam_0 : LamT := lamOf (("law" ++ ".<locals>.") ++ "<lambda>" : Str) s_law (exOf (stAt (defBody s_law) [4]) [0, 0, 1])
def lam_1 : LamT := lamOf (("law" ++ ".<locals>.") ++ "<lambda>" : Str) s_law (exOf (stAt (defBody s_law) [2, 3]) [0, 0, 1])
def lam_2 : LamT := lamOf (("law" ++ ".<locals>.") ++ "<lambda>" : Str) s_law (exOf (stAt (defBody s_law) [1, 14]) [0, 0, 1])
def lam_3 : LamT := lamOf (("law" ++ ".<locals>.") ++ "<lambda>" : Str) s_law (exOf (stAt (defBody s_law) [1, 10]) [0, 1])
def lam_4 : LamT := lamOf (("law" ++ ".<locals>.") ++ "<lambda>" : Str) s_law (exOf (stAt (defBody s_law) [1, 5]) [0, 1])
theorem ls_0 : LamX.lamSB (defScope s_law) (lam_0).scope = true := by decide +kernel
theorem ls_1 : LamX.lamSB (defScope s_law) (lam_1).scope = true := by decide +kernel
theorem ls_2 : LamX.lamSB (defScope s_law) (lam_2).scope = true := by decide +kernel
theorem ls_3 : LamX.lamSB (defScope s_law) (lam_3).scope = true := by decide +kernel
theorem ls_4 : LamX.lamSB (defScope s_law) (lam_4).scope = true := by decide +kernel
def lamsL : List LamT := [lam_0, lam_1, lam_2, lam_3, lam_4]
def df__law_pen : List D := []
def b__law_pen : MS := (sSeq (sSet 1 (mK (.int 0))) (sSeq (sFor (iSeq (mVar 0)) (gNm 2) (sSeq (sSet 1 (mOp dMod (oVal (mCall dInt (mAc (oVal (mOp dAdd (oVal (mOp dMul (oVar 1) (oVal (mK (.int 67))))) (oVar 2))) mA0))) (oVal (mK (.int 1000000033))))) sNil)) (sSeq (sRet (mDict (mPc (mK (.str "cells")) (mCall dList (mAc (oVar 0) mA0)) (mPc (mK (.str "at")) (mK (.int 0)) (mPc (mK (.str "digits")) (mK (.int 0)) (mPc (mK (.str "count")) (mK (.int 0)) (mPc (mK (.str "fold")) (mVar 1) mP0))))))) sNil)))
def m__law_pen : MF := mDef 1 2 (b__law_pen)
def df__law_draw : List D := []
def b__law_draw : MS := (sSeq (sDPut1 0 (mK (.str "count")) (mOp dAdd (oVal (mOp dDGet (oVar 0) (oVal (mK (.str "count"))))) (oVal (mK (.int 1))))) (sSeq (sIf (mtAnd (mtB (mOp dEq (oVal (mOp dDGet (oVar 0) (oVal (mK (.str "digits"))))) (oVal (mK (.int 0))))) (mtB (mOp dLt (oVal (mOp dDGet (oVar 0) (oVal (mK (.str "at"))))) (oVal (mCall dLen (mAc (oVal (mOp dDGet (oVar 0) (oVal (mK (.str "cells"))))) mA0)))))) (sSeq (sSet 2 (mOp dIx (oVal (mOp dDGet (oVar 0) (oVal (mK (.str "cells"))))) (oVal (mOp dDGet (oVar 0) (oVal (mK (.str "at"))))))) (sSeq (sDPut1 0 (mK (.str "at")) (mOp dAdd (oVal (mOp dDGet (oVar 0) (oVal (mK (.str "at"))))) (oVal (mK (.int 1))))) (sSeq (sIf (mtB (mOp dGe (oVar 2) (oVal (mOp dPow (oVal (mK (.int 10))) (oVal (mK (.int 18))))))) (sSeq (sDPut1 0 (mK (.str "digits")) (mOp dSub (oVar 2) (oVal (mOp dPow (oVal (mK (.int 10))) (oVal (mK (.int 18))))))) sNil) (sSeq (sDPut1 0 (mK (.str "fold")) (mOp dMod (oVal (mCall dInt (mAc (oVal (mOp dAdd (oVal (mOp dMul (oVal (mOp dDGet (oVar 0) (oVal (mK (.str "fold"))))) (oVal (mK (.int 69069))))) (oVar 2))) mA0))) (oVal (mK (.int 2147483543))))) sNil)) sNil))) sNil) (sSeq (sIf (mtB (mOp dGt (oVal (mOp dDGet (oVar 0) (oVal (mK (.str "digits"))))) (oVal (mK (.int 0))))) (sSeq (sSet 3 (mOp dMod (oVal (mCall dInt (mAc (oVal (mOp dDGet (oVar 0) (oVal (mK (.str "digits"))))) mA0))) (oVar 1))) (sSeq (sDPut1 0 (mK (.str "digits")) (mOp dFdiv (oVal (mOp dDGet (oVar 0) (oVal (mK (.str "digits"))))) (oVar 1))) (sSeq (sRet (mVar 3)) sNil))) sNil) (sSeq (sSet 4 (mOp dAdd (oVal (mOp dAdd (oVal (mOp dDGet (oVar 0) (oVal (mK (.str "fold"))))) (oVal (mOp dMul (oVal (mOp dDGet (oVar 0) (oVal (mK (.str "count"))))) (oVal (mK (.int 8167))))))) (oVal (mK (.int 47))))) (sSeq (sRet (mOp dMod (oVal (mOp dFdiv (oVal (mCall dInt (mAc (oVal (mOp dMod (oVal (mOp dPow (oVar 4) (oVal (mK (.int 17))))) (oVal (mK (.int 2305843009213693951))))) mA0))) (oVal (mK (.int 128))))) (oVar 1))) sNil)))))
def m__law_draw : MF := mDef 2 3 (b__law_draw)
def df__law_pick : List D := []
def b__law_pick : MS := (sSeq (sRet (mOp dIx (oVar 1) (oVal (mCallQ (df__law_draw.drop 0) m__law_draw (mAc (oVar 0) (mAc (oVal (mCall dLen (mAc (oVar 1) mA0))) mA0)))))) sNil)
def m__law_pick : MF := mDef 2 0 (b__law_pick)
def df__law_isqrt : List D := []
def b__law_isqrt : MS := (sSeq (sIf (mtB (mOp dLt (oVar 0) (oVal (mK (.int 2))))) (sSeq (sRet (mVar 0)) sNil) sNil) (sSeq (sSet 1 (mOp dShl (oVal (mK (.int 1))) (oVal (mOp dFdiv (oVal (mOp dAdd (oVal (mUn dBits (oVar 0))) (oVal (mK (.int 1))))) (oVal (mK (.int 2))))))) (sSeq (sSet 2 (mOp dFdiv (oVal (mOp dAdd (oVar 1) (oVal (mOp dFdiv (oVar 0) (oVar 1))))) (oVal (mK (.int 2))))) (sSeq (sWhile 100000 (mtB (mOp dLt (oVar 2) (oVar 1))) (sSeq (sPar [1, 2] (mRc (mVar 2) (mRc (mOp dFdiv (oVal (mOp dAdd (oVar 2) (oVal (mOp dFdiv (oVar 0) (oVar 2))))) (oVal (mK (.int 2)))) mR0))) sNil)) (sSeq (sRet (mVar 1)) sNil)))))
def m__law_isqrt : MF := mDef 1 2 (b__law_isqrt)
def df__law_square_out : List D := []
def b__law_square_out : MS := (sSeq (sFor (iRangeN 2 (mAc (oVal (mK (.int 2))) (mAc (oVal (mOp dAdd (oVal (mCallP (df__law_isqrt.drop 0) m__law_isqrt (mAc (oVal (mCall dAbs (mAc (oVar 0) mA0))) mA0))) (oVal (mK (.int 1))))) mA0))) (gNm 1) (sSeq (sFor (iRangeN 1 (mAc (oVal (mUn dBits (oVar 0))) mA0)) (gNm 2) (sSeq (sIf (mtB (mOp dEq (oVal (mOp dMod (oVar 0) (oVal (mOp dMul (oVar 1) (oVar 1))))) (oVal (mK (.int 0))))) (sSeq (sSet 0 (mOp dFdiv (oVar 0) (oVal (mOp dMul (oVar 1) (oVar 1))))) sNil) sNil) sNil)) sNil)) (sSeq (sRet (mVar 0)) sNil))
def m__law_square_out : MF := mDef 1 2 (b__law_square_out)
def df__law_conductor : List D := []
def b__law_conductor : MS := (sSeq (sRet (mIf (mtB (mOp dEq (oVal (mOp dMod (oVar 0) (oVal (mK (.int 4))))) (oVal (mK (.int 1))))) (mCall dAbs (mAc (oVar 0) mA0)) (mOp dMul (oVal (mK (.int 4))) (oVal (mCall dAbs (mAc (oVar 0) mA0)))))) sNil)
def m__law_conductor : MF := mDef 1 0 (b__law_conductor)
def df__law_due : List D := []
def b__law_due : MS := (sSeq (sIf (mtOr (mtNot (mtB (mIsi [.int] (oVar 0)))) (mtOr (mtB (mIsi [.bool] (oVar 0))) (mtNot (mtB (mChain dLe dLe (oVal (mK (.int 1))) (oVar 0) (oVal (mK (.int 10000)))))))) (sSeq (sRet (mK (.str "level"))) sNil) sNil) (sSeq (sIf (mtOr (mtNot (mtB (mIsi [.int] (oVar 1)))) (mtOr (mtB (mIsi [.bool] (oVar 1))) (mtNot (mtB (mChain dLe dLe (oVal (mK (.int 1))) (oVar 1) (oVal (mK (.int 60)))))))) (sSeq (sRet (mK (.str "weight"))) sNil) sNil) (sSeq (sIf (mtOr (mtNot (mtB (mIsi [.int] (oVar 2)))) (mtOr (mtB (mIsi [.bool] (oVar 2))) (mtOr (mtB (mOp dEq (oVar 2) (oVal (mK (.int 0))))) (mtOr (mtB (mOp dGt (oVal (mCall dAbs (mAc (oVar 2) mA0))) (oVal (mK (.int 10000))))) (mtB (mOp dNe (oVal (mCallP (df__law_square_out.drop 0) m__law_square_out (mAc (oVal (mVar 2)) mA0))) (oVar 2))))))) (sSeq (sRet (mK (.str "sign"))) sNil) sNil) (sSeq (sRet (mIf (mtOr (mtB (mOp dNe (oVal (mOp dLt (oVar 2) (oVal (mK (.int 0))))) (oVal (mOp dEq (oVal (mOp dMod (oVar 1) (oVal (mK (.int 2))))) (oVal (mK (.int 1))))))) (mtB (mOp dNe (oVal (mOp dMod (oVar 0) (oVal (mCallP (df__law_conductor.drop 0) m__law_conductor (mAc (oVal (mVar 2)) mA0))))) (oVal (mK (.int 0)))))) (mK (.str "sign")) (mK .non))) sNil))))
def m__law_due : MF := mDef 3 0 (b__law_due)
def df__law_complaint : List D := []
def hs__law_complaint : List HdM := [{ cls := "BadRoom", slot := some 1, tab := [("BadRoom", true), ("BadItem", false), ("BadNumber", false)], ats := [.k (.str "room"), .fld "why"], tup := true },
  { cls := "BadItem", slot := some 1, tab := [("BadRoom", false), ("BadItem", true), ("BadNumber", false)], ats := [.k (.str "item"), .rep "value"], tup := true },
  { cls := "BadNumber", slot := some 1, tab := [("BadRoom", false), ("BadItem", false), ("BadNumber", true)], ats := [.k (.str "number"), .fld "what", .rep "value"], tup := true }]
def df_is_integer : List D := []
def b_is_integer : MS := (sSeq (sRet (mAnd (mIsi [.int] (oVar 0)) (mNot (mIsi [.bool] (oVar 0))))) sNil)
def m_is_integer : MF := mDef 1 0 (b_is_integer)
def df_is_level : List D := []
def b_is_level : MS := (sSeq (sRet (mAnd (mCallP (df_is_integer.drop 0) m_is_integer (mAc (oVal (mVar 0)) mA0)) (mChain dLe dLe (oVal (mK (.int 1))) (oVar 0) (oVal (mK (.int 10000)))))) sNil)
def m_is_level : MF := mDef 1 0 (b_is_level)
def df_square_free_of : List D := []
def b_square_free_of : MS := (sSeq (sPar [1, 2, 3] (mRc (mCall dAbs (mAc (oVar 0) mA0)) (mRc (mK (.int 1)) (mRc (mK (.int 2)) mR0)))) (sSeq (sWhile 100000 (mtB (mOp dLe (oVal (mOp dMul (oVar 3) (oVar 3))) (oVar 1))) (sSeq (sSet 4 (mK (.int 0))) (sSeq (sWhile 100000 (mtB (mOp dEq (oVal (mOp dMod (oVar 1) (oVar 3))) (oVal (mK (.int 0))))) (sSeq (sPar [1, 4] (mRc (mOp dFdiv (oVar 1) (oVar 3)) (mRc (mOp dAdd (oVar 4) (oVal (mK (.int 1)))) mR0))) sNil)) (sSeq (sIf (mtB (mOp dEq (oVal (mOp dMod (oVar 4) (oVal (mK (.int 2))))) (oVal (mK (.int 1))))) (sSeq (sSet 2 (mOp dMul (oVar 2) (oVar 3))) sNil) sNil) (sSeq (sAug 3 dIAdd (mIf (mtB (mOp dEq (oVar 3) (oVal (mK (.int 2))))) (mK (.int 1)) (mK (.int 2)))) sNil))))) (sSeq (sRet (mIf (mtB (mOp dGt (oVar 0) (oVal (mK (.int 0))))) (mOp dMul (oVar 2) (oVar 1)) (mOp dMul (oVal (mUn dNeg (oVar 2))) (oVar 1)))) sNil)))
def m_square_free_of : MF := mDef 1 4 (b_square_free_of)
def df_conductor_of : List D := []
def b_conductor_of : MS := (sSeq (sRet (mIf (mtB (mOp dEq (oVal (mOp dMod (oVar 0) (oVal (mK (.int 4))))) (oVal (mK (.int 1))))) (mCall dAbs (mAc (oVar 0) mA0)) (mOp dMul (oVal (mK (.int 4))) (oVal (mCall dAbs (mAc (oVar 0) mA0)))))) sNil)
def m_conductor_of : MF := mDef 1 0 (b_conductor_of)
def df_is_sign : List D := []
def b_is_sign : MS := (sSeq (sIf (mtOr (mtNot (mtB (mCallP (df_is_integer.drop 0) m_is_integer (mAc (oVal (mVar 2)) mA0)))) (mtOr (mtB (mOp dEq (oVar 2) (oVal (mK (.int 0))))) (mtOr (mtB (mOp dGt (oVal (mCall dAbs (mAc (oVar 2) mA0))) (oVal (mK (.int 10000))))) (mtB (mOp dNe (oVal (mCallP (df_square_free_of.drop 0) m_square_free_of (mAc (oVal (mVar 2)) mA0))) (oVar 2)))))) (sSeq (sRet (mK (.bl false))) sNil) sNil) (sSeq (sRet (mAnd (mOp dEq (oVal (mOp dLt (oVar 2) (oVal (mK (.int 0))))) (oVal (mOp dEq (oVal (mOp dMod (oVar 1) (oVal (mK (.int 2))))) (oVal (mK (.int 1)))))) (mOp dEq (oVal (mOp dMod (oVar 0) (oVal (mCallP (df_conductor_of.drop 0) m_conductor_of (mAc (oVal (mVar 2)) mA0))))) (oVal (mK (.int 0)))))) sNil))
def m_is_sign : MF := mDef 3 0 (b_is_sign)
def df_Room_m___init__ : List D := []
def b_Room_m___init__ : MS := (sSeq (sIf (mtNot (mtB (mCallP (df_is_level.drop 0) m_is_level (mAc (oVal (mVar 1)) mA0)))) (sSeq (sRaise "BadRoom" ["why"] (mAc (oVal (mK (.str "level"))) mA0)) sNil) sNil) (sSeq (sIf (mtOr (mtNot (mtB (mCallP (df_is_integer.drop 0) m_is_integer (mAc (oVal (mVar 2)) mA0)))) (mtNot (mtB (mChain dLe dLe (oVal (mK (.int 1))) (oVar 2) (oVal (mK (.int 60))))))) (sSeq (sRaise "BadRoom" ["why"] (mAc (oVal (mK (.str "weight"))) mA0)) sNil) sNil) (sSeq (sIf (mtNot (mtB (mCallP (df_is_sign.drop 0) m_is_sign (mAc (oVal (mVar 1)) (mAc (oVal (mVar 2)) (mAc (oVal (mVar 3)) mA0)))))) (sSeq (sRaise "BadRoom" ["why"] (mAc (oVal (mK (.str "sign"))) mA0)) sNil) sNil) (sSeq (sSetF CL 0 "level" (mVar 1)) (sSeq (sSetF CL 0 "weight" (mVar 2)) (sSeq (sSetF CL 0 "sign" (mVar 3)) sNil))))))
def m_Room_m___init__ : MF := mDef 4 0 (b_Room_m___init__)
def df_Room_m___eq__ : List D := []
def b_Room_m___eq__ : MS := (sSeq (sIf (mtNot (mtB (mUn (dIsC CL "Room") (oVar 1)))) (sSeq (sRet (mK (.bl false))) sNil) sNil) (sSeq (sRet (mOp dEq (oVal (mTup (mAc (oVal (mUn (dFld CL "level") (oVar 0))) (mAc (oVal (mUn (dFld CL "weight") (oVar 0))) (mAc (oVal (mUn (dFld CL "sign") (oVar 0))) mA0))))) (oVal (mTup (mAc (oVal (mUn (dFld CL "level") (oVar 1))) (mAc (oVal (mUn (dFld CL "weight") (oVar 1))) (mAc (oVal (mUn (dFld CL "sign") (oVar 1))) mA0))))))) sNil))
def m_Room_m___eq__ : MF := mDef 2 0 (b_Room_m___eq__)
def df_need_room : List D := []
def b_need_room : MS := (sSeq (sIf (mtNot (mtB (mUn (dIsC CL "Room") (oVar 0)))) (sSeq (sRaise "BadItem" ["value"] (mAc (oVal (mVar 0)) mA0)) sNil) sNil) sNil)
def m_need_room : MF := mDef 1 0 (b_need_room)
def df_need_multiple : List D := []
def b_need_multiple : MS := (sSeq (sIf (mtOr (mtNot (mtB (mCallP (df_is_integer.drop 0) m_is_integer (mAc (oVal (mVar 1)) mA0)))) (mtOr (mtB (mOp dLt (oVar 1) (oVal (mK (.int 1))))) (mtB (mOp dNe (oVal (mOp dMod (oVar 1) (oVar 0))) (oVal (mK (.int 0))))))) (sSeq (sRaise "BadNumber" ["what", "value"] (mAc (oVal (mK (.str "level"))) (mAc (oVal (mVar 1)) mA0))) sNil) sNil) (sSeq (sIf (mtNot (mtB (mCallP (df_is_level.drop 0) m_is_level (mAc (oVal (mVar 1)) mA0)))) (sSeq (sRaise "BadRoom" ["why"] (mAc (oVal (mK (.str "level"))) mA0)) sNil) sNil) sNil))
def m_need_multiple : MF := mDef 2 0 (b_need_multiple)
def df_room_at : List D := []
def b_room_at : MS := (sSeq (sExpr (mCallP (df_need_room.drop 0) m_need_room (mAc (oVal (mVar 0)) mA0))) (sSeq (sExpr (mCallP (df_need_multiple.drop 0) m_need_multiple (mAc (oVal (mUn (dFld CL "level") (oVar 0))) (mAc (oVal (mVar 1)) mA0)))) (sSeq (sRet (mMake "Room" (df_Room_m___init__.drop 0) m_Room_m___init__ (mAc (oVal (mVar 1)) (mAc (oVal (mUn (dFld CL "weight") (oVar 0))) (mAc (oVal (mUn (dFld CL "sign") (oVar 0))) mA0))))) sNil)))
def m_room_at : MF := mDef 2 0 (b_room_at)
def eqs : List (Str × MF) := [("Room", m_Room_m___eq__)]
def df_law : List D := []
def lm_law (CE : List (Str × Addr)) : LMs := fun k => match k with
  | 0 => some ((mCallP (df_room_at.drop 0) m_room_at (mAc (oVal (mVar 15)) (mAc (oVal (mK .non)) mA0))), cloFrom CE (lam_0).scope.names [])
  | 1 => some ((mMake "Room" (df_Room_m___init__.drop 0) m_Room_m___init__ (mAc (oVal (mOp dIx (oVar 14) (oVal (mK (.int 0))))) (mAc (oVal (mOp dIx (oVar 14) (oVal (mK (.int 1))))) (mAc (oVal (mOp dIx (oVar 14) (oVal (mK (.int 2))))) mA0)))), cloFrom CE (lam_1).scope.names [])
  | 2 => some ((mCallP (df_room_at.drop 0) m_room_at (mAc (oVal (mOp dIx (oVar 7) (oVal (mK (.int 1))))) (mAc (oVal (mVar 11)) mA0))), cloFrom CE (lam_2).scope.names [])
  | 3 => some ((mCallP (df_room_at.drop 0) m_room_at (mAc (oVal (mOp dIx (oVar 7) (oVal (mK (.int 1))))) (mAc (oVal (mVar 8)) mA0))), cloFrom CE (lam_3).scope.names [])
  | 4 => some ((mMake "Room" (df_Room_m___init__.drop 0) m_Room_m___init__ (mAc (oVal (mVar 4)) (mAc (oVal (mVar 5)) (mAc (oVal (mVar 3)) mA0)))), cloFrom CE (lam_4).scope.names [])
  | _ => none
def b_law (CE : List (Str × Addr)) : MS := (sSeq (sSet 1 (mCallP (df__law_pen.drop 0) m__law_pen (mAc (oVal (mVar 0)) mA0))) (sSeq (sFor (iRangeN 1 (mAc (oVal (mK (.int 8))) mA0)) (gNm 2) (sSeq (sSet 3 (mCallQ (df__law_pick.drop 0) m__law_pick (mAc (oVar 1) (mAc (oVal (mLst (mAc (oVal (mK (.int 1))) (mAc (oVal (mUn dNeg (oVal (mK (.int 1))))) (mAc (oVal (mK (.int 2))) (mAc (oVal (mUn dNeg (oVal (mK (.int 2))))) (mAc (oVal (mK (.int 3))) (mAc (oVal (mUn dNeg (oVal (mK (.int 3))))) (mAc (oVal (mK (.int 5))) (mAc (oVal (mUn dNeg (oVal (mK (.int 7))))) (mAc (oVal (mK (.int 6))) (mAc (oVal (mUn dNeg (oVal (mK (.int 6))))) (mAc (oVal (mK (.int 4))) (mAc (oVal (mUn dNeg (oVal (mK (.int 4))))) (mAc (oVal (mK (.int 12))) (mAc (oVal (mK (.int 0))) (mAc (oVal (mK (.int 21))) (mAc (oVal (mUn dNeg (oVal (mK (.int 23))))) mA0)))))))))))))))))) mA0)))) (sSeq (sSet 4 (mOp dMul (oVal (mCallQ (df__law_pick.drop 0) m__law_pick (mAc (oVar 1) (mAc (oVal (mLst (mAc (oVal (mK (.int 1))) (mAc (oVal (mK (.int 2))) (mAc (oVal (mK (.int 4))) (mAc (oVal (mK (.int 8))) (mAc (oVal (mK (.int 12))) (mAc (oVal (mK (.int 24))) (mAc (oVal (mK (.int 23))) (mAc (oVal (mK (.int 60))) (mAc (oVal (mK (.int 84))) (mAc (oVal (mK (.int 120))) (mAc (oVal (mK (.int 5000))) (mAc (oVal (mK (.int 10000))) mA0)))))))))))))) mA0)))) (oVal (mOp dAdd (oVal (mK (.int 1))) (oVal (mCallQ (df__law_draw.drop 0) m__law_draw (mAc (oVar 1) (mAc (oVal (mK (.int 4))) mA0)))))))) (sSeq (sSet 5 (mIf (mtB (mOp dGt (oVal (mCallQ (df__law_draw.drop 0) m__law_draw (mAc (oVar 1) (mAc (oVal (mK (.int 5))) mA0)))) (oVal (mK (.int 0))))) (mOp dAdd (oVal (mK (.int 1))) (oVal (mCallQ (df__law_draw.drop 0) m__law_draw (mAc (oVar 1) (mAc (oVal (mK (.int 12))) mA0))))) (mCallQ (df__law_pick.drop 0) m__law_pick (mAc (oVar 1) (mAc (oVal (mLst (mAc (oVal (mK (.int 60))) (mAc (oVal (mK (.int 61))) (mAc (oVal (mK (.int 59))) (mAc (oVal (mK (.int 0))) (mAc (oVal (mUn dNeg (oVal (mK (.int 2))))) mA0))))))) mA0))))) (sSeq (sIf (mtAnd (mtB (mOp dEq (oVal (mCallQ (df__law_draw.drop 0) m__law_draw (mAc (oVar 1) (mAc (oVal (mK (.int 3))) mA0)))) (oVal (mK (.int 0))))) (mtB (mOp dNe (oVar 3) (oVal (mK (.int 0)))))) (sSeq (sSet 4 (mOp dMul (oVal (mCallP (df__law_conductor.drop 0) m__law_conductor (mAc (oVal (mVar 3)) mA0))) (oVal (mOp dAdd (oVal (mK (.int 1))) (oVal (mCallQ (df__law_draw.drop 0) m__law_draw (mAc (oVar 1) (mAc (oVal (mK (.int 5))) mA0)))))))) sNil) sNil) (sSeq (sSet 6 (mCallP (df__law_due.drop 0) m__law_due (mAc (oVal (mVar 4)) (mAc (oVal (mVar 5)) (mAc (oVal (mVar 3)) mA0))))) (sSeq (sSet 7 (mCaught "ok" hs__law_complaint (lm_law CE) (oVal (mLam 4 (cloFrom CE (lam_4).scope.names []))))) (sSeq (sIf (mtB (mOp dNotN (oVar 6) (oVal (mK .non)))) (sSeq (sIf (mtB (mEqO CL true eqs dNe (oVar 7) (oVal (mTup (mAc (oVal (mK (.str "room"))) (mAc (oVal (mVar 6)) mA0)))))) (sSeq (sRet (mK (.bl false))) sNil) sNil) (sSeq sCont sNil)) sNil) (sSeq (sIf (mtOr (mtB (mOp dNe (oVal (mOp dIx (oVar 7) (oVal (mK (.int 0))))) (oVal (mK (.str "ok"))))) (mtOr (mtB (mEqO CL true eqs dNe (oVal (mTup (mAc (oVal (mUn (dFld CL "level") (oVal (mOp dIx (oVar 7) (oVal (mK (.int 1))))))) (mAc (oVal (mUn (dFld CL "weight") (oVal (mOp dIx (oVar 7) (oVal (mK (.int 1))))))) (mAc (oVal (mUn (dFld CL "sign") (oVal (mOp dIx (oVar 7) (oVal (mK (.int 1))))))) mA0))))) (oVal (mTup (mAc (oVal (mVar 4)) (mAc (oVal (mVar 5)) (mAc (oVal (mVar 3)) mA0))))))) (mtB (mEqO CL true eqs dNe (oVal (mOp dIx (oVar 7) (oVal (mK (.int 1))))) (oVal (mMake "Room" (df_Room_m___init__.drop 0) m_Room_m___init__ (mAc (oVal (mVar 4)) (mAc (oVal (mVar 5)) (mAc (oVal (mVar 3)) mA0))))))))) (sSeq (sRet (mK (.bl false))) sNil) sNil) (sSeq (sSet 8 (mOp dAdd (oVal (mOp dMul (oVar 4) (oVal (mOp dAdd (oVal (mK (.int 1))) (oVal (mCallQ (df__law_draw.drop 0) m__law_draw (mAc (oVar 1) (mAc (oVal (mK (.int 5))) mA0)))))))) (oVal (mCallQ (df__law_pick.drop 0) m__law_pick (mAc (oVar 1) (mAc (oVal (mLst (mAc (oVal (mK (.int 0))) (mAc (oVal (mK (.int 0))) (mAc (oVal (mK (.int 0))) (mAc (oVal (mK (.int 1))) (mAc (oVal (mUn dNeg (oVal (mK (.int 1))))) mA0))))))) mA0)))))) (sSeq (sSet 9 (mIf (mtOr (mtB (mOp dLt (oVar 8) (oVal (mK (.int 1))))) (mtB (mOp dNe (oVal (mOp dMod (oVar 8) (oVar 4))) (oVal (mK (.int 0)))))) (mTup (mAc (oVal (mK (.str "number"))) (mAc (oVal (mK (.str "level"))) (mAc (oVal (mCall dRepr (mAc (oVar 8) mA0))) mA0)))) (mIf (mtB (mOp dGt (oVar 8) (oVal (mK (.int 10000))))) (mTup (mAc (oVal (mK (.str "room"))) (mAc (oVal (mK (.str "level"))) mA0))) (mK .non)))) (sSeq (sSet 10 (mCaught "ok" hs__law_complaint (lm_law CE) (oVal (mLam 3 (cloFrom CE (lam_3).scope.names []))))) (sSeq (sIf (mtOr (mtAnd (mtB (mOp dNotN (oVar 9) (oVal (mK .non)))) (mtB (mEqO CL true eqs dNe (oVar 10) (oVar 9)))) (mtAnd (mtB (mOp dIsN (oVar 9) (oVal (mK .non)))) (mtOr (mtB (mOp dNe (oVal (mOp dIx (oVar 10) (oVal (mK (.int 0))))) (oVal (mK (.str "ok"))))) (mtB (mEqO CL true eqs dNe (oVal (mOp dIx (oVar 10) (oVal (mK (.int 1))))) (oVal (mMake "Room" (df_Room_m___init__.drop 0) m_Room_m___init__ (mAc (oVal (mVar 8)) (mAc (oVal (mVar 5)) (mAc (oVal (mVar 3)) mA0)))))))))) (sSeq (sRet (mK (.bl false))) sNil) sNil) (sSeq (sIf (mtOr (mtAnd (mtB (mEqO CL true eqs dNe (oVar 8) (oVar 4))) (mtAnd (mtB (mOp dIsN (oVar 9) (oVal (mK .non)))) (mtB (mEqO CL false eqs dEq (oVal (mOp dIx (oVar 10) (oVal (mK (.int 1))))) (oVal (mOp dIx (oVar 7) (oVal (mK (.int 1))))))))) (mtB (mEqO CL false eqs dEq (oVal (mOp dIx (oVar 7) (oVal (mK (.int 1))))) (oVal (mTup (mAc (oVal (mVar 4)) (mAc (oVal (mVar 5)) (mAc (oVal (mVar 3)) mA0)))))))) (sSeq (sRet (mK (.bl false))) sNil) sNil) (sSeq (sSet 11 (mCallQ (df__law_pick.drop 0) m__law_pick (mAc (oVar 1) (mAc (oVal (mLst (mAc (oVal (mK .non)) (mAc (oVal (mK (.bl true))) (mAc (oVal (mK (.str "4"))) (mAc (oVal (mTup (mAc (oVal (mK (.int 4))) mA0))) (mAc (oVal (mK (.int 0))) (mAc (oVal (mUn dNeg (oVar 4))) mA0)))))))) mA0)))) (sSeq (sIf (mtB (mEqO CL true eqs dNe (oVal (mCaught "ok" hs__law_complaint (lm_law CE) (oVal (mLam 2 (cloFrom CE (lam_2).scope.names []))))) (oVal (mTup (mAc (oVal (mK (.str "number"))) (mAc (oVal (mK (.str "level"))) (mAc (oVal (mCall dRepr (mAc (oVar 11) mA0))) mA0))))))) (sSeq (sRet (mK (.bl false))) sNil) sNil) sNil)))))))))))))))) (sSeq (sFor (iRangeN 1 (mAc (oVal (mK (.int 3))) mA0)) (gNm 12) (sSeq (sSet 13 (mCallQ (df__law_pick.drop 0) m__law_pick (mAc (oVar 1) (mAc (oVal (mLst (mAc (oVal (mK .non)) (mAc (oVal (mK (.bl true))) (mAc (oVal (mK (.str "1"))) (mAc (oVal (mTup (mAc (oVal (mK (.int 1))) mA0))) mA0)))))) mA0)))) (sSeq (sSet 14 (mLst (mAc (oVal (mK (.int 12))) (mAc (oVal (mK (.int 2))) (mAc (oVal (mK (.int 1))) mA0))))) (sSeq (sSetIx 14 (mVar 12) (mVar 13)) (sSeq (sIf (mtB (mEqO CL true eqs dNe (oVal (mCaught "ok" hs__law_complaint (lm_law CE) (oVal (mLam 1 (cloFrom CE (lam_1).scope.names []))))) (oVal (mTup (mAc (oVal (mK (.str "room"))) (mAc (oVal (mOp dIx (oVal (mTup (mAc (oVal (mK (.str "level"))) (mAc (oVal (mK (.str "weight"))) (mAc (oVal (mK (.str "sign"))) mA0))))) (oVar 12))) mA0)))))) (sSeq (sRet (mK (.bl false))) sNil) sNil) sNil))))) (sSeq (sSet 15 (mCallQ (df__law_pick.drop 0) m__law_pick (mAc (oVar 1) (mAc (oVal (mLst (mAc (oVal (mK .non)) (mAc (oVal (mTup (mAc (oVal (mK (.int 12))) (mAc (oVal (mK (.int 2))) (mAc (oVal (mK (.int 1))) mA0))))) (mAc (oVal (mK (.int 12))) mA0))))) mA0)))) (sSeq (sRet (mEqO CL false eqs dEq (oVal (mCaught "ok" hs__law_complaint (lm_law CE) (oVal (mLam 0 (cloFrom CE (lam_0).scope.names []))))) (oVal (mTup (mAc (oVal (mK (.str "item"))) (mAc (oVal (mCall dRepr (mAc (oVar 15) mA0))) mA0)))))) sNil)))))
def m_law (CE : List (Str × Addr)) : MF := mDef 1 15 (b_law CE)
/-! ### what stands behind the top -/
theorem hdT_nil {K : PySem.W.Frag} {c : Str} : ∀ x b, (x, b) ∈ ([] : List (Str × Bool)) → PySem.W.exmOne K (.ref (He.ga K x)) (.ref (He.ga K c)) = some b := fun _ _ h => nomatch h
theorem hdT_cons {K : PySem.W.Frag} {c y : Str} {d : Bool} {t : List (Str × Bool)} (h : PySem.W.exmOne K (.ref (He.ga K y)) (.ref (He.ga K c)) = some d) (r : ∀ x b, (x, b) ∈ t → PySem.W.exmOne K (.ref (He.ga K x)) (.ref (He.ga K c)) = some b) : ∀ x b, (x, b) ∈ (y, d) :: t → PySem.W.exmOne K (.ref (He.ga K x)) (.ref (He.ga K c)) = some b := fun x b hm => by
  rcases List.mem_cons.mp hm with e | e
  · cases e; exact h
  · exact r x b e
theorem hdA_nil {K : PySem.W.Frag} {n : Nat} : ∀ h ∈ ([] : List HdM), HdOk K n h := fun _ h => nomatch h
theorem hdA_cons {K : PySem.W.Frag} {n : Nat} {a : HdM} {t : List HdM} (h : HdOk K n a) (r : ∀ h ∈ t, HdOk K n h) : ∀ h ∈ a :: t, HdOk K n h := fun x hm => by
  rcases List.mem_cons.mp hm with e | e
  · rw [e]; exact h
  · exact r x e
theorem u70 {k : Nat} {A : Around} {e : PySem.Env} (r : Room (k + 1) A) : (A.deeper e).units + 70 < cLine := by
  have := (r.deeper e).un
  omega
structure Tx [tb : TabT] (P : Program) (w : World) (K : PySem.W.Frag) (mg : Str → Option Value) (base : Heap) : Prop where
  lam : tb.lams = lamsL
  cls : ClAll K CL
  tb_law : LamX.TabB base mg (He.codeOf K ("law", none)) (He.cT K ("law", none)).2
  tm_law : ((He.cT K ("law", none)).2, (("law" ++ ".<locals>.") ++ "<lambda>" : Str)) ∈ tb.T
  tu_law : ∀ p ∈ tb.T, p.1 = (He.cT K ("law", none)).2 → p.2 = (("law" ++ ".<locals>.") ++ "<lambda>" : Str)
  n_abs : mg "abs" = none
  n_bool : mg "bool" = none
  n_int : mg "int" = none
  n_isinstance : mg "isinstance" = none
  n_len : mg "len" = none
  n_list : mg "list" = none
  n_range : mg "range" = none
  n_repr : mg "repr" = none
  i_MOST_LEVEL : ∃ t, mg "MOST_LEVEL" = some (.int 10000 t)
  i_MOST_WEIGHT : ∃ t, mg "MOST_WEIGHT" = some (.int 60 t)
  g__law_pen : mg "_law_pen" = some (.ref (He.ga K "_law_pen"))
  g__law_draw : mg "_law_draw" = some (.ref (He.ga K "_law_draw"))
  g__law_pick : mg "_law_pick" = some (.ref (He.ga K "_law_pick"))
  g__law_isqrt : mg "_law_isqrt" = some (.ref (He.ga K "_law_isqrt"))
  g__law_square_out : mg "_law_square_out" = some (.ref (He.ga K "_law_square_out"))
  g__law_conductor : mg "_law_conductor" = some (.ref (He.ga K "_law_conductor"))
  g__law_due : mg "_law_due" = some (.ref (He.ga K "_law_due"))
  g__law_complaint : mg "_law_complaint" = some (.ref (He.ga K "_law_complaint"))
  g_is_integer : mg "is_integer" = some (.ref (He.ga K "is_integer"))
  g_is_level : mg "is_level" = some (.ref (He.ga K "is_level"))
  g_square_free_of : mg "square_free_of" = some (.ref (He.ga K "square_free_of"))
  g_conductor_of : mg "conductor_of" = some (.ref (He.ga K "conductor_of"))
  g_is_sign : mg "is_sign" = some (.ref (He.ga K "is_sign"))
  g_need_room : mg "need_room" = some (.ref (He.ga K "need_room"))
  g_need_multiple : mg "need_multiple" = some (.ref (He.ga K "need_multiple"))
  g_room_at : mg "room_at" = some (.ref (He.ga K "room_at"))
  g_law : mg "law" = some (.ref (He.ga K "law"))
  g_Room : mg "Room" = some (.ref (He.ga K "Room"))
  g_BadRoom : mg "BadRoom" = some (.ref (He.ga K "BadRoom"))
  g_BadItem : mg "BadItem" = some (.ref (He.ga K "BadItem"))
  g_BadNumber : mg "BadNumber" = some (.ref (He.ga K "BadNumber"))
  e_BadRoom_BadRoom : PySem.W.exmOne K (.ref (He.ga K "BadRoom")) (.ref (He.ga K "BadRoom")) = some true
  e_BadItem_BadRoom : PySem.W.exmOne K (.ref (He.ga K "BadItem")) (.ref (He.ga K "BadRoom")) = some false
  e_BadNumber_BadRoom : PySem.W.exmOne K (.ref (He.ga K "BadNumber")) (.ref (He.ga K "BadRoom")) = some false
  e_BadRoom_BadItem : PySem.W.exmOne K (.ref (He.ga K "BadRoom")) (.ref (He.ga K "BadItem")) = some false
  e_BadItem_BadItem : PySem.W.exmOne K (.ref (He.ga K "BadItem")) (.ref (He.ga K "BadItem")) = some true
  e_BadNumber_BadItem : PySem.W.exmOne K (.ref (He.ga K "BadNumber")) (.ref (He.ga K "BadItem")) = some false
  e_BadRoom_BadNumber : PySem.W.exmOne K (.ref (He.ga K "BadRoom")) (.ref (He.ga K "BadNumber")) = some false
  e_BadItem_BadNumber : PySem.W.exmOne K (.ref (He.ga K "BadItem")) (.ref (He.ga K "BadNumber")) = some false
  e_BadNumber_BadNumber : PySem.W.exmOne K (.ref (He.ga K "BadNumber")) (.ref (He.ga K "BadNumber")) = some true
  x_BadRoom : XFact P K mg "BadRoom" ["why"]
  x_BadItem : XFact P K mg "BadItem" ["value"]
  x_BadNumber : XFact P K mg "BadNumber" ["what", "value"]
  d__law_pen : ∃ fd, FunD K "_law_pen" "_law_pen" (defArgs s__law_pen) (defBody s__law_pen) (defScope s__law_pen) (df__law_pen.map scV) [] (He.ga K "_law_pen") fd
  d__law_draw : ∃ fd, FunD K "_law_draw" "_law_draw" (defArgs s__law_draw) (defBody s__law_draw) (defScope s__law_draw) (df__law_draw.map scV) [] (He.ga K "_law_draw") fd
  d__law_pick : ∃ fd, FunD K "_law_pick" "_law_pick" (defArgs s__law_pick) (defBody s__law_pick) (defScope s__law_pick) (df__law_pick.map scV) [] (He.ga K "_law_pick") fd
  d__law_isqrt : ∃ fd, FunD K "_law_isqrt" "_law_isqrt" (defArgs s__law_isqrt) (defBody s__law_isqrt) (defScope s__law_isqrt) (df__law_isqrt.map scV) [] (He.ga K "_law_isqrt") fd
  d__law_square_out : ∃ fd, FunD K "_law_square_out" "_law_square_out" (defArgs s__law_square_out) (defBody s__law_square_out) (defScope s__law_square_out) (df__law_square_out.map scV) [] (He.ga K "_law_square_out") fd
  d__law_conductor : ∃ fd, FunD K "_law_conductor" "_law_conductor" (defArgs s__law_conductor) (defBody s__law_conductor) (defScope s__law_conductor) (df__law_conductor.map scV) [] (He.ga K "_law_conductor") fd
  d__law_due : ∃ fd, FunD K "_law_due" "_law_due" (defArgs s__law_due) (defBody s__law_due) (defScope s__law_due) (df__law_due.map scV) [] (He.ga K "_law_due") fd
  d__law_complaint : ∃ fd, FunD K "_law_complaint" "_law_complaint" (defArgs s__law_complaint) (defBody s__law_complaint) (defScope s__law_complaint) (df__law_complaint.map scV) [] (He.ga K "_law_complaint") fd
  d_is_integer : ∃ fd, FunD K "is_integer" "is_integer" (defArgs s_is_integer) (defBody s_is_integer) (defScope s_is_integer) (df_is_integer.map scV) [] (He.ga K "is_integer") fd
  d_is_level : ∃ fd, FunD K "is_level" "is_level" (defArgs s_is_level) (defBody s_is_level) (defScope s_is_level) (df_is_level.map scV) [] (He.ga K "is_level") fd
  d_square_free_of : ∃ fd, FunD K "square_free_of" "square_free_of" (defArgs s_square_free_of) (defBody s_square_free_of) (defScope s_square_free_of) (df_square_free_of.map scV) [] (He.ga K "square_free_of") fd
  d_conductor_of : ∃ fd, FunD K "conductor_of" "conductor_of" (defArgs s_conductor_of) (defBody s_conductor_of) (defScope s_conductor_of) (df_conductor_of.map scV) [] (He.ga K "conductor_of") fd
  d_is_sign : ∃ fd, FunD K "is_sign" "is_sign" (defArgs s_is_sign) (defBody s_is_sign) (defScope s_is_sign) (df_is_sign.map scV) [] (He.ga K "is_sign") fd
  d_Room_m___init__ : ∃ fd, FunD K "__init__" "Room.__init__" (defArgs s_Room_m___init__) (defBody s_Room_m___init__) (defScope s_Room_m___init__) (df_Room_m___init__.map scV) [] (He.ma K (He.ga K "Room") "__init__") fd
  d_Room_m___eq__ : ∃ fd, FunD K "__eq__" "Room.__eq__" (defArgs s_Room_m___eq__) (defBody s_Room_m___eq__) (defScope s_Room_m___eq__) (df_Room_m___eq__.map scV) [] (He.ma K (He.ga K "Room") "__eq__") fd
  d_need_room : ∃ fd, FunD K "need_room" "need_room" (defArgs s_need_room) (defBody s_need_room) (defScope s_need_room) (df_need_room.map scV) [] (He.ga K "need_room") fd
  d_need_multiple : ∃ fd, FunD K "need_multiple" "need_multiple" (defArgs s_need_multiple) (defBody s_need_multiple) (defScope s_need_multiple) (df_need_multiple.map scV) [] (He.ga K "need_multiple") fd
  d_room_at : ∃ fd, FunD K "room_at" "room_at" (defArgs s_room_at) (defBody s_room_at) (defScope s_room_at) (df_room_at.map scV) [] (He.ga K "room_at") fd
  d_law : ∃ fd, FunD K "law" "law" (defArgs s_law) (defBody s_law) (defScope s_law) (df_law.map scV) [] (He.ga K "law") fd
section
variable [tb : TabT]
variable {P : Program} {w : World} {K : PySem.W.Frag} {mg : Str → Option Value} {base : Heap}
theorem sc__law_pen : FnScope ["script", "fold", "cell"] ["script"] (defScope s__law_pen) := ⟨rfl, rfl, rfl, by decide +kernel, rfl, by decide +kernel, by decide +kernel⟩
theorem body__law_pen (T : Tx P w K mg base) {k : Nat} (hk : 0 ≤ k) {f : Addr} {cdv : Value} {A : Around} {outer : List PySem.Env} {s : Shared} {H : Hp} {E : XK} (hr : Room k (A.deeper (envOfC "_law_pen" (defScope s__law_pen) s.heap.objs.size f cdv))) : MSs (cxOf (L2.CX P w) P w K mg base ["script", "fold", "cell"] "_law_pen" (defScope s__law_pen) f cdv A outer s H E) (fun cls d _ H => E cls d H) (defBody s__law_pen) b__law_pen := by
  have hr := hr.mono hk
  have nd := sc__law_pen.nd
  have tk : Takes (cxOf (L2.CX P w) P w K mg base ["script", "fold", "cell"] "_law_pen" (defScope s__law_pen) f cdv A outer s H E) (fun cls d _ H => E cls d H) := takes_of rfl rfl rfl rfl
  have lp : PassesOwn (model P w) (A.deeper (envOfC "_law_pen" (defScope s__law_pen) s.heap.objs.size f cdv)) (envOfC "_law_pen" (defScope s__law_pen) s.heap.objs.size f cdv) (cxOf (L2.CX P w) P w K mg base ["script", "fold", "cell"] "_law_pen" (defScope s__law_pen) f cdv A outer s H E).xe := passes_of (X := (cxOf (L2.CX P w) P w K mg base ["script", "fold", "cell"] "_law_pen" (defScope s__law_pen) f cdv A outer s H E)) rfl
  exact (mss_cons (ms_set nd rfl (by first | exact Or.inl rfl | exact Or.inr rfl) me_int) (mss_cons (ms_for lp rfl (mi_seq (me_var 0)) (mg_name nd rfl (by first | exact Or.inl rfl | exact Or.inr rfl)) (mss_cons (ms_set nd rfl (by first | exact Or.inl rfl | exact Or.inr rfl) (me_op op_mod s_mod (mo_of (me_toInt T.n_int (ma_cons (mo_of (me_op op_addAll s_add (mo_of (me_op op_mulAll s_mul (mo_var 1) (mo_of me_int))) (mo_var 2))) ma_nil))) (mo_of me_int))) mss_nil)) (mss_cons (ms_ret (me_dict (mps_cons me_str (me_toList T.n_list (ma_cons (mo_var 0) ma_nil)) (mps_cons me_str me_int (mps_cons me_str me_int (mps_cons me_str me_int (mps_cons me_str (me_var 1) mps_nil))))))) mss_nil)))
theorem ok__law_pen (T : Tx P w K mg base) : Fn P w K mg base 1 "_law_pen" ["script"] df__law_pen m__law_pen := by
  obtain ⟨fd, F⟩ := T.d__law_pen
  exact ⟨⟨fd, def_ok (n := 1) 2 F sc__law_pen rfl rfl fun cdv A outer s H E hr => body__law_pen T (by decide) hr, lk_of F, fun j hj => by
    have e : j = 0 := by simpa [df__law_pen] using hj
    subst e
    exact ⟨[], .nil, F.bindsN fun _ _ _ _ _ _ us hl => match us, hl with | [_], _ => rfl⟩⟩, T.g__law_pen, F.kp⟩
theorem sc__law_draw : FnScope ["pen", "many", "cell", "digit", "mixed"] ["pen", "many"] (defScope s__law_draw) := ⟨rfl, rfl, rfl, by decide +kernel, rfl, by decide +kernel, by decide +kernel⟩
theorem body__law_draw (T : Tx P w K mg base) {k : Nat} (hk : 0 ≤ k) {f : Addr} {cdv : Value} {A : Around} {outer : List PySem.Env} {s : Shared} {H : Hp} {E : XK} (hr : Room k (A.deeper (envOfC "_law_draw" (defScope s__law_draw) s.heap.objs.size f cdv))) : MSs (cxOf (L2.CX P w) P w K mg base ["pen", "many", "cell", "digit", "mixed"] "_law_draw" (defScope s__law_draw) f cdv A outer s H E) (fun cls d _ H => E cls d H) (defBody s__law_draw) b__law_draw := by
  have hr := hr.mono hk
  have nd := sc__law_draw.nd
  have tk : Takes (cxOf (L2.CX P w) P w K mg base ["pen", "many", "cell", "digit", "mixed"] "_law_draw" (defScope s__law_draw) f cdv A outer s H E) (fun cls d _ H => E cls d H) := takes_of rfl rfl rfl rfl
  have lp : PassesOwn (model P w) (A.deeper (envOfC "_law_draw" (defScope s__law_draw) s.heap.objs.size f cdv)) (envOfC "_law_draw" (defScope s__law_draw) s.heap.objs.size f cdv) (cxOf (L2.CX P w) P w K mg base ["pen", "many", "cell", "digit", "mixed"] "_law_draw" (defScope s__law_draw) f cdv A outer s H E).xe := passes_of (X := (cxOf (L2.CX P w) P w K mg base ["pen", "many", "cell", "digit", "mixed"] "_law_draw" (defScope s__law_draw) f cdv A outer s H E)) rfl
  exact (mss_cons (ms_dput (ps_dput (u1 hr) (pv 0) me_str (me_op op_addAll s_add (mo_of (me_dget (u1 hr) (mo_var 0) (mo_of me_str))) (mo_of me_int)) (by rfl))) (mss_cons (ms_if (mt_w (mw_and (mt_cmp (op_eqD (u64 hr)) s_eq (mo_of (me_dget (u1 hr) (mo_var 0) (mo_of me_str))) (mo_of me_int) (nomark _)) (mw_and1 (mt_cmp op_lt s_lt (mo_of (me_dget (u1 hr) (mo_var 0) (mo_of me_str))) (mo_of (me_len T.n_len (ma_cons (mo_of (me_dget (u1 hr) (mo_var 0) (mo_of me_str))) ma_nil))) (nomark _))))) (mss_cons (ms_set nd rfl (by first | exact Or.inl rfl | exact Or.inr rfl) (me_ix (mo_of (me_dget (u1 hr) (mo_var 0) (mo_of me_str))) (mo_of (me_dget (u1 hr) (mo_var 0) (mo_of me_str))))) (mss_cons (ms_dput (ps_dput (u1 hr) (pv 0) me_str (me_op op_addAll s_add (mo_of (me_dget (u1 hr) (mo_var 0) (mo_of me_str))) (mo_of me_int)) (by rfl))) (mss_cons (ms_if (mt_cmp op_ge s_ge (mo_var 2) (mo_of (me_op op_pow s_pow (mo_of me_int) (mo_of me_int))) (nomark _)) (mss_cons (ms_dput (ps_dput (u1 hr) (pv 0) me_str (me_op op_sub s_sub (mo_var 2) (mo_of (me_op op_pow s_pow (mo_of me_int) (mo_of me_int)))) (by rfl))) mss_nil) (mss_cons (ms_dput (ps_dput (u1 hr) (pv 0) me_str (me_op op_mod s_mod (mo_of (me_toInt T.n_int (ma_cons (mo_of (me_op op_addAll s_add (mo_of (me_op op_mulAll s_mul (mo_of (me_dget (u1 hr) (mo_var 0) (mo_of me_str))) (mo_of me_int))) (mo_var 2))) ma_nil))) (mo_of me_int)) (by rfl))) mss_nil)) mss_nil))) mss_nil) (mss_cons (ms_if (mt_cmp op_gt s_gt (mo_of (me_dget (u1 hr) (mo_var 0) (mo_of me_str))) (mo_of me_int) (nomark _)) (mss_cons (ms_set nd rfl (by first | exact Or.inl rfl | exact Or.inr rfl) (me_op op_mod s_mod (mo_of (me_toInt T.n_int (ma_cons (mo_of (me_dget (u1 hr) (mo_var 0) (mo_of me_str))) ma_nil))) (mo_var 1))) (mss_cons (ms_dput (ps_dput (u1 hr) (pv 0) me_str (me_op op_fdiv s_fdiv (mo_of (me_dget (u1 hr) (mo_var 0) (mo_of me_str))) (mo_var 1)) (by rfl))) (mss_cons (ms_ret (me_var 3)) mss_nil))) mss_nil) (mss_cons (ms_set nd rfl (by first | exact Or.inl rfl | exact Or.inr rfl) (me_op op_addAll s_add (mo_of (me_op op_addAll s_add (mo_of (me_dget (u1 hr) (mo_var 0) (mo_of me_str))) (mo_of (me_op op_mulAll s_mul (mo_of (me_dget (u1 hr) (mo_var 0) (mo_of me_str))) (mo_of me_int))))) (mo_of me_int))) (mss_cons (ms_ret (me_op op_mod s_mod (mo_of (me_op op_fdiv s_fdiv (mo_of (me_toInt T.n_int (ma_cons (mo_of (me_op op_mod s_mod (mo_of (me_op op_pow s_pow (mo_var 4) (mo_of me_int))) (mo_of me_int))) ma_nil))) (mo_of me_int))) (mo_var 1))) mss_nil)))))
theorem ok__law_draw (T : Tx P w K mg base) : Fn P w K mg base 1 "_law_draw" ["pen", "many"] df__law_draw m__law_draw := by
  obtain ⟨fd, F⟩ := T.d__law_draw
  exact ⟨⟨fd, def_ok (n := 2) 3 F sc__law_draw rfl rfl fun cdv A outer s H E hr => body__law_draw T (by decide) hr, lk_of F, fun j hj => by
    have e : j = 0 := by simpa [df__law_draw] using hj
    subst e
    exact ⟨[], .nil, F.bindsN fun _ _ _ _ _ _ us hl => match us, hl with | [_, _], _ => rfl⟩⟩, T.g__law_draw, F.kp⟩
theorem sc__law_pick : FnScope ["pen", "some"] ["pen", "some"] (defScope s__law_pick) := ⟨rfl, rfl, rfl, by decide +kernel, rfl, by decide +kernel, by decide +kernel⟩
theorem body__law_pick (T : Tx P w K mg base) {k : Nat} (hk : 1 ≤ k) {f : Addr} {cdv : Value} {A : Around} {outer : List PySem.Env} {s : Shared} {H : Hp} {E : XK} (hr : Room k (A.deeper (envOfC "_law_pick" (defScope s__law_pick) s.heap.objs.size f cdv))) : MSs (cxOf (L2.CX P w) P w K mg base ["pen", "some"] "_law_pick" (defScope s__law_pick) f cdv A outer s H E) (fun cls d _ H => E cls d H) (defBody s__law_pick) b__law_pick := by
  have hr := hr.mono hk
  have nd := sc__law_pick.nd
  have tk : Takes (cxOf (L2.CX P w) P w K mg base ["pen", "some"] "_law_pick" (defScope s__law_pick) f cdv A outer s H E) (fun cls d _ H => E cls d H) := takes_of rfl rfl rfl rfl
  have lp : PassesOwn (model P w) (A.deeper (envOfC "_law_pick" (defScope s__law_pick) s.heap.objs.size f cdv)) (envOfC "_law_pick" (defScope s__law_pick) s.heap.objs.size f cdv) (cxOf (L2.CX P w) P w K mg base ["pen", "some"] "_law_pick" (defScope s__law_pick) f cdv A outer s H E).xe := passes_of (X := (cxOf (L2.CX P w) P w K mg base ["pen", "some"] "_law_pick" (defScope s__law_pick) f cdv A outer s H E)) rfl
  exact (mss_cons (ms_ret (me_ix (mo_var 1) (mo_of (me_fnQ (ok__law_draw T) 0 hr tk (ma_cons (mo_var 0) (ma_cons (mo_of (me_len T.n_len (ma_cons (mo_var 1) ma_nil))) ma_nil)))))) mss_nil)
theorem ok__law_pick (T : Tx P w K mg base) : Fn P w K mg base 2 "_law_pick" ["pen", "some"] df__law_pick m__law_pick := by
  obtain ⟨fd, F⟩ := T.d__law_pick
  exact ⟨⟨fd, def_ok (n := 2) 0 F sc__law_pick rfl rfl fun cdv A outer s H E hr => body__law_pick T (by decide) hr, lk_of F, fun j hj => by
    have e : j = 0 := by simpa [df__law_pick] using hj
    subst e
    exact ⟨[], .nil, F.bindsN fun _ _ _ _ _ _ us hl => match us, hl with | [_, _], _ => rfl⟩⟩, T.g__law_pick, F.kp⟩
theorem sc__law_isqrt : FnScope ["n", "here", "then"] ["n"] (defScope s__law_isqrt) := ⟨rfl, rfl, rfl, by decide +kernel, rfl, by decide +kernel, by decide +kernel⟩
theorem body__law_isqrt (T : Tx P w K mg base) {k : Nat} (hk : 0 ≤ k) {f : Addr} {cdv : Value} {A : Around} {outer : List PySem.Env} {s : Shared} {H : Hp} {E : XK} (hr : Room k (A.deeper (envOfC "_law_isqrt" (defScope s__law_isqrt) s.heap.objs.size f cdv))) : MSs (cxOf (L2.CX P w) P w K mg base ["n", "here", "then"] "_law_isqrt" (defScope s__law_isqrt) f cdv A outer s H E) (fun cls d _ H => E cls d H) (defBody s__law_isqrt) b__law_isqrt := by
  have hr := hr.mono hk
  have nd := sc__law_isqrt.nd
  have tk : Takes (cxOf (L2.CX P w) P w K mg base ["n", "here", "then"] "_law_isqrt" (defScope s__law_isqrt) f cdv A outer s H E) (fun cls d _ H => E cls d H) := takes_of rfl rfl rfl rfl
  have lp : PassesOwn (model P w) (A.deeper (envOfC "_law_isqrt" (defScope s__law_isqrt) s.heap.objs.size f cdv)) (envOfC "_law_isqrt" (defScope s__law_isqrt) s.heap.objs.size f cdv) (cxOf (L2.CX P w) P w K mg base ["n", "here", "then"] "_law_isqrt" (defScope s__law_isqrt) f cdv A outer s H E).xe := passes_of (X := (cxOf (L2.CX P w) P w K mg base ["n", "here", "then"] "_law_isqrt" (defScope s__law_isqrt) f cdv A outer s H E)) rfl
  exact (mss_cons (ms_if (mt_cmp op_lt s_lt (mo_var 0) (mo_of me_int) (nomark _)) (mss_cons (ms_ret (me_var 0)) mss_nil) mss_nil) (mss_cons (ms_set nd rfl (by first | exact Or.inl rfl | exact Or.inr rfl) (me_op op_shl s_shl (mo_of me_int) (mo_of (me_op op_fdiv s_fdiv (mo_of (me_op op_addAll s_add (mo_of (me_bits (mo_var 0))) (mo_of me_int))) (mo_of me_int))))) (mss_cons (ms_set nd rfl (by first | exact Or.inl rfl | exact Or.inr rfl) (me_op op_fdiv s_fdiv (mo_of (me_op op_addAll s_add (mo_var 1) (mo_of (me_op op_fdiv s_fdiv (mo_var 0) (mo_var 1))))) (mo_of me_int))) (mss_cons (ms_while lp (mt_cmp op_lt s_lt (mo_var 2) (mo_var 1) (nomark _)) (mss_cons (ms_par (ps_par rfl nd rfl rfl (by decide) rfl rfl (mr_cons (me_var 2) (mr_cons (me_op op_fdiv s_fdiv (mo_of (me_op op_addAll s_add (mo_var 2) (mo_of (me_op op_fdiv s_fdiv (mo_var 0) (mo_var 2))))) (mo_of me_int)) mr_nil)) (by rfl))) mss_nil)) (mss_cons (ms_ret (me_var 1)) mss_nil)))))
theorem ok__law_isqrt (T : Tx P w K mg base) : Fn P w K mg base 1 "_law_isqrt" ["n"] df__law_isqrt m__law_isqrt := by
  obtain ⟨fd, F⟩ := T.d__law_isqrt
  exact ⟨⟨fd, def_ok (n := 1) 2 F sc__law_isqrt rfl rfl fun cdv A outer s H E hr => body__law_isqrt T (by decide) hr, lk_of F, fun j hj => by
    have e : j = 0 := by simpa [df__law_isqrt] using hj
    subst e
    exact ⟨[], .nil, F.bindsN fun _ _ _ _ _ _ us hl => match us, hl with | [_], _ => rfl⟩⟩, T.g__law_isqrt, F.kp⟩
theorem sc__law_square_out : FnScope ["n", "p", "lap"] ["n"] (defScope s__law_square_out) := ⟨rfl, rfl, rfl, by decide +kernel, rfl, by decide +kernel, by decide +kernel⟩
theorem body__law_square_out (T : Tx P w K mg base) {k : Nat} (hk : 1 ≤ k) {f : Addr} {cdv : Value} {A : Around} {outer : List PySem.Env} {s : Shared} {H : Hp} {E : XK} (hr : Room k (A.deeper (envOfC "_law_square_out" (defScope s__law_square_out) s.heap.objs.size f cdv))) : MSs (cxOf (L2.CX P w) P w K mg base ["n", "p", "lap"] "_law_square_out" (defScope s__law_square_out) f cdv A outer s H E) (fun cls d _ H => E cls d H) (defBody s__law_square_out) b__law_square_out := by
  have hr := hr.mono hk
  have nd := sc__law_square_out.nd
  have tk : Takes (cxOf (L2.CX P w) P w K mg base ["n", "p", "lap"] "_law_square_out" (defScope s__law_square_out) f cdv A outer s H E) (fun cls d _ H => E cls d H) := takes_of rfl rfl rfl rfl
  have lp : PassesOwn (model P w) (A.deeper (envOfC "_law_square_out" (defScope s__law_square_out) s.heap.objs.size f cdv)) (envOfC "_law_square_out" (defScope s__law_square_out) s.heap.objs.size f cdv) (cxOf (L2.CX P w) P w K mg base ["n", "p", "lap"] "_law_square_out" (defScope s__law_square_out) f cdv A outer s H E).xe := passes_of (X := (cxOf (L2.CX P w) P w K mg base ["n", "p", "lap"] "_law_square_out" (defScope s__law_square_out) f cdv A outer s H E)) rfl
  exact (mss_cons (ms_for lp rfl (mi_range2 rfl T.n_range (ma_cons (mo_of me_int) (ma_cons (mo_of (me_op op_addAll s_add (mo_of (me_fnP (ok__law_isqrt T) 0 hr tk (ma_cons (mo_of (me_abs T.n_abs (ma_cons (mo_var 0) ma_nil))) ma_nil))) (mo_of me_int))) ma_nil))) (mg_name nd rfl (by first | exact Or.inl rfl | exact Or.inr rfl)) (mss_cons (ms_for lp rfl (mi_range1 rfl T.n_range (ma_cons (mo_of (me_bits (mo_var 0))) ma_nil)) (mg_name nd rfl (by first | exact Or.inl rfl | exact Or.inr rfl)) (mss_cons (ms_if (mt_cmp (op_eqD (u64 hr)) s_eq (mo_of (me_op op_mod s_mod (mo_var 0) (mo_of (me_op op_mulAll s_mul (mo_var 1) (mo_var 1))))) (mo_of me_int) (nomark _)) (mss_cons (ms_set nd rfl (by first | exact Or.inl rfl | exact Or.inr rfl) (me_op op_fdiv s_fdiv (mo_var 0) (mo_of (me_op op_mulAll s_mul (mo_var 1) (mo_var 1))))) mss_nil) mss_nil) mss_nil)) mss_nil)) (mss_cons (ms_ret (me_var 0)) mss_nil))
theorem ok__law_square_out (T : Tx P w K mg base) : Fn P w K mg base 2 "_law_square_out" ["n"] df__law_square_out m__law_square_out := by
  obtain ⟨fd, F⟩ := T.d__law_square_out
  exact ⟨⟨fd, def_ok (n := 1) 2 F sc__law_square_out rfl rfl fun cdv A outer s H E hr => body__law_square_out T (by decide) hr, lk_of F, fun j hj => by
    have e : j = 0 := by simpa [df__law_square_out] using hj
    subst e
    exact ⟨[], .nil, F.bindsN fun _ _ _ _ _ _ us hl => match us, hl with | [_], _ => rfl⟩⟩, T.g__law_square_out, F.kp⟩
theorem sc__law_conductor : FnScope ["s"] ["s"] (defScope s__law_conductor) := ⟨rfl, rfl, rfl, by decide +kernel, rfl, by decide +kernel, by decide +kernel⟩
theorem body__law_conductor (T : Tx P w K mg base) {k : Nat} (hk : 0 ≤ k) {f : Addr} {cdv : Value} {A : Around} {outer : List PySem.Env} {s : Shared} {H : Hp} {E : XK} (hr : Room k (A.deeper (envOfC "_law_conductor" (defScope s__law_conductor) s.heap.objs.size f cdv))) : MSs (cxOf (L2.CX P w) P w K mg base ["s"] "_law_conductor" (defScope s__law_conductor) f cdv A outer s H E) (fun cls d _ H => E cls d H) (defBody s__law_conductor) b__law_conductor := by
  have hr := hr.mono hk
  have nd := sc__law_conductor.nd
  have tk : Takes (cxOf (L2.CX P w) P w K mg base ["s"] "_law_conductor" (defScope s__law_conductor) f cdv A outer s H E) (fun cls d _ H => E cls d H) := takes_of rfl rfl rfl rfl
  have lp : PassesOwn (model P w) (A.deeper (envOfC "_law_conductor" (defScope s__law_conductor) s.heap.objs.size f cdv)) (envOfC "_law_conductor" (defScope s__law_conductor) s.heap.objs.size f cdv) (cxOf (L2.CX P w) P w K mg base ["s"] "_law_conductor" (defScope s__law_conductor) f cdv A outer s H E).xe := passes_of (X := (cxOf (L2.CX P w) P w K mg base ["s"] "_law_conductor" (defScope s__law_conductor) f cdv A outer s H E)) rfl
  exact (mss_cons (ms_ret (me_if (mt_cmp (op_eqD (u64 hr)) s_eq (mo_of (me_op op_mod s_mod (mo_var 0) (mo_of me_int))) (mo_of me_int) (nomark _)) (me_abs T.n_abs (ma_cons (mo_var 0) ma_nil)) (me_op op_mulAll s_mul (mo_of me_int) (mo_of (me_abs T.n_abs (ma_cons (mo_var 0) ma_nil)))))) mss_nil)
theorem ok__law_conductor (T : Tx P w K mg base) : Fn P w K mg base 1 "_law_conductor" ["s"] df__law_conductor m__law_conductor := by
  obtain ⟨fd, F⟩ := T.d__law_conductor
  exact ⟨⟨fd, def_ok (n := 1) 0 F sc__law_conductor rfl rfl fun cdv A outer s H E hr => body__law_conductor T (by decide) hr, lk_of F, fun j hj => by
    have e : j = 0 := by simpa [df__law_conductor] using hj
    subst e
    exact ⟨[], .nil, F.bindsN fun _ _ _ _ _ _ us hl => match us, hl with | [_], _ => rfl⟩⟩, T.g__law_conductor, F.kp⟩
theorem sc__law_due : FnScope ["level", "weight", "sign"] ["level", "weight", "sign"] (defScope s__law_due) := ⟨rfl, rfl, rfl, by decide +kernel, rfl, by decide +kernel, by decide +kernel⟩
theorem body__law_due (T : Tx P w K mg base) {k : Nat} (hk : 2 ≤ k) {f : Addr} {cdv : Value} {A : Around} {outer : List PySem.Env} {s : Shared} {H : Hp} {E : XK} (hr : Room k (A.deeper (envOfC "_law_due" (defScope s__law_due) s.heap.objs.size f cdv))) : MSs (cxOf (L2.CX P w) P w K mg base ["level", "weight", "sign"] "_law_due" (defScope s__law_due) f cdv A outer s H E) (fun cls d _ H => E cls d H) (defBody s__law_due) b__law_due := by
  have hr := hr.mono hk
  have nd := sc__law_due.nd
  have tk : Takes (cxOf (L2.CX P w) P w K mg base ["level", "weight", "sign"] "_law_due" (defScope s__law_due) f cdv A outer s H E) (fun cls d _ H => E cls d H) := takes_of rfl rfl rfl rfl
  have lp : PassesOwn (model P w) (A.deeper (envOfC "_law_due" (defScope s__law_due) s.heap.objs.size f cdv)) (envOfC "_law_due" (defScope s__law_due) s.heap.objs.size f cdv) (cxOf (L2.CX P w) P w K mg base ["level", "weight", "sign"] "_law_due" (defScope s__law_due) f cdv A outer s H E).xe := passes_of (X := (cxOf (L2.CX P w) P w K mg base ["level", "weight", "sign"] "_law_due" (defScope s__law_due) f cdv A outer s H E)) rfl
  exact (mss_cons (ms_if (mt_w (mw_or (mt_not (mt_val (me_isi .int (mo_var 0) (hm := T.n_isinstance) (hm2 := T.n_int) (hv2 := b_int)))) (mw_or (mt_val (me_isi .bool (mo_var 0) (hm := T.n_isinstance) (hm2 := T.n_bool) (hv2 := b_bool))) (mw_or1 (mt_not (mt_chain op_le s_le op_le s_le (mo_of me_int) (mo_var 0) (mo_of me_int))))))) (mss_cons (ms_ret me_str) mss_nil) mss_nil) (mss_cons (ms_if (mt_w (mw_or (mt_not (mt_val (me_isi .int (mo_var 1) (hm := T.n_isinstance) (hm2 := T.n_int) (hv2 := b_int)))) (mw_or (mt_val (me_isi .bool (mo_var 1) (hm := T.n_isinstance) (hm2 := T.n_bool) (hv2 := b_bool))) (mw_or1 (mt_not (mt_chain op_le s_le op_le s_le (mo_of me_int) (mo_var 1) (mo_of me_int))))))) (mss_cons (ms_ret me_str) mss_nil) mss_nil) (mss_cons (ms_if (mt_w (mw_or (mt_not (mt_val (me_isi .int (mo_var 2) (hm := T.n_isinstance) (hm2 := T.n_int) (hv2 := b_int)))) (mw_or (mt_val (me_isi .bool (mo_var 2) (hm := T.n_isinstance) (hm2 := T.n_bool) (hv2 := b_bool))) (mw_or (mt_cmp (op_eqD (u64 hr)) s_eq (mo_var 2) (mo_of me_int) (nomark _)) (mw_or (mt_cmp op_gt s_gt (mo_of (me_abs T.n_abs (ma_cons (mo_var 2) ma_nil))) (mo_of me_int) (nomark _)) (mw_or1 (mt_cmp (op_neD (u64 hr)) s_ne (mo_of (me_fnP (ok__law_square_out T) 0 hr tk (ma_cons (mo_of (me_var 2)) ma_nil))) (mo_var 2) (nomark _)))))))) (mss_cons (ms_ret me_str) mss_nil) mss_nil) (mss_cons (ms_ret (me_if (mt_w (mw_or (mt_cmp (op_neD (u64 hr)) s_ne (mo_of (me_cmp op_lt s_lt (mo_var 2) (mo_of me_int) (nomark _))) (mo_of (me_cmp (op_eqD (u64 hr)) s_eq (mo_of (me_op op_mod s_mod (mo_var 1) (mo_of me_int))) (mo_of me_int) (nomark _))) (nomark _)) (mw_or1 (mt_cmp (op_neD (u64 hr)) s_ne (mo_of (me_op op_mod s_mod (mo_var 0) (mo_of (me_fnP (ok__law_conductor T) 0 hr tk (ma_cons (mo_of (me_var 2)) ma_nil))))) (mo_of me_int) (nomark _))))) me_str me_non)) mss_nil))))
theorem ok__law_due (T : Tx P w K mg base) : Fn P w K mg base 3 "_law_due" ["level", "weight", "sign"] df__law_due m__law_due := by
  obtain ⟨fd, F⟩ := T.d__law_due
  exact ⟨⟨fd, def_ok (n := 3) 0 F sc__law_due rfl rfl fun cdv A outer s H E hr => body__law_due T (by decide) hr, lk_of F, fun j hj => by
    have e : j = 0 := by simpa [df__law_due] using hj
    subst e
    exact ⟨[], .nil, F.bindsN fun _ _ _ _ _ _ us hl => match us, hl with | [_, _, _], _ => rfl⟩⟩, T.g__law_due, F.kp⟩
theorem sc__law_complaint : FnScope ["call", "e"] ["call"] (defScope s__law_complaint) := ⟨rfl, rfl, rfl, by decide +kernel, rfl, by decide +kernel, by decide +kernel⟩
theorem hf__law_complaint (T : Tx P w K mg base) : ∀ h ∈ hs__law_complaint, HdOk K 2 h := (hdA_cons ⟨(hdT_cons T.e_BadRoom_BadRoom (hdT_cons T.e_BadItem_BadRoom (hdT_cons T.e_BadNumber_BadRoom hdT_nil))), by decide, by decide, by decide⟩ (hdA_cons ⟨(hdT_cons T.e_BadRoom_BadItem (hdT_cons T.e_BadItem_BadItem (hdT_cons T.e_BadNumber_BadItem hdT_nil))), by decide, by decide, by decide⟩ (hdA_cons ⟨(hdT_cons T.e_BadRoom_BadNumber (hdT_cons T.e_BadItem_BadNumber (hdT_cons T.e_BadNumber_BadNumber hdT_nil))), by decide, by decide, by decide⟩ hdA_nil)))
theorem hds__law_complaint {X : Cx} {n : Nat} (T : Tx X.prog X.w X.K X.mg X.base) (hgd : X.A.guards = some []) (hr : Room (n + 1) X.A) (cdv : Value) (s : Shared) (H : Hp) : HdsAs (cxOf C8.CX0 X.prog X.w X.K X.mg X.base ["call", "e"] "_law_complaint" (defScope s__law_complaint) (He.ga X.K "_law_complaint") cdv X.A X.stack s H C8.E0).nox (tryHs (defBody s__law_complaint)) (hs__law_complaint.map (toL X.K)) := (.as ⟨rfl, by decide, .inl T.g_BadRoom⟩ rfl rfl (suit_tup rfl (xa_cons (xa_k rfl fun _ => pe_str) (xa_cons (xa_fld T.x_BadRoom.xf (T.x_BadRoom.no _ (by decide)) rfl (Or.inl rfl) (by decide) (by decide) rfl) xa_nil))) (.as ⟨rfl, by decide, .inl T.g_BadItem⟩ rfl rfl (suit_tup rfl (xa_cons (xa_k rfl fun _ => pe_str) (xa_cons (xa_rep (kk := 0) T.x_BadItem.xf (T.x_BadItem.no _ (by decide)) rfl (Or.inl rfl) (by decide) (by decide) rfl hgd (u70 hr) rfl T.n_repr rfl) xa_nil))) (.as ⟨rfl, by decide, .inl T.g_BadNumber⟩ rfl rfl (suit_tup rfl (xa_cons (xa_k rfl fun _ => pe_str) (xa_cons (xa_fld T.x_BadNumber.xf (T.x_BadNumber.no _ (by decide)) rfl (Or.inl rfl) (by decide) (by decide) rfl) (xa_cons (xa_rep (kk := 0) T.x_BadNumber.xf (T.x_BadNumber.no _ (by decide)) rfl (Or.inl rfl) (by decide) (by decide) rfl hgd (u70 hr) rfl T.n_repr rfl) xa_nil)))) .nil)))
theorem sc_is_integer : FnScope ["value"] ["value"] (defScope s_is_integer) := ⟨rfl, rfl, rfl, by decide +kernel, rfl, by decide +kernel, by decide +kernel⟩
theorem body_is_integer (T : Tx P w K mg base) {k : Nat} (hk : 0 ≤ k) {f : Addr} {cdv : Value} {A : Around} {outer : List PySem.Env} {s : Shared} {H : Hp} {E : XK} (hr : Room k (A.deeper (envOfC "is_integer" (defScope s_is_integer) s.heap.objs.size f cdv))) : MSs (cxOf (L2.CX P w) P w K mg base ["value"] "is_integer" (defScope s_is_integer) f cdv A outer s H E) (fun cls d _ H => E cls d H) (defBody s_is_integer) b_is_integer := by
  have hr := hr.mono hk
  have nd := sc_is_integer.nd
  have tk : Takes (cxOf (L2.CX P w) P w K mg base ["value"] "is_integer" (defScope s_is_integer) f cdv A outer s H E) (fun cls d _ H => E cls d H) := takes_of rfl rfl rfl rfl
  have lp : PassesOwn (model P w) (A.deeper (envOfC "is_integer" (defScope s_is_integer) s.heap.objs.size f cdv)) (envOfC "is_integer" (defScope s_is_integer) s.heap.objs.size f cdv) (cxOf (L2.CX P w) P w K mg base ["value"] "is_integer" (defScope s_is_integer) f cdv A outer s H E).xe := passes_of (X := (cxOf (L2.CX P w) P w K mg base ["value"] "is_integer" (defScope s_is_integer) f cdv A outer s H E)) rfl
  exact (mss_cons (ms_ret (me_and (me_isi .int (mo_var 0) (hm := T.n_isinstance) (hm2 := T.n_int) (hv2 := b_int)) (me_one (me_not (me_isi .bool (mo_var 0) (hm := T.n_isinstance) (hm2 := T.n_bool) (hv2 := b_bool)))))) mss_nil)
theorem ok_is_integer (T : Tx P w K mg base) : Fn P w K mg base 1 "is_integer" ["value"] df_is_integer m_is_integer := by
  obtain ⟨fd, F⟩ := T.d_is_integer
  exact ⟨⟨fd, def_ok (n := 1) 0 F sc_is_integer rfl rfl fun cdv A outer s H E hr => body_is_integer T (by decide) hr, lk_of F, fun j hj => by
    have e : j = 0 := by simpa [df_is_integer] using hj
    subst e
    exact ⟨[], .nil, F.bindsN fun _ _ _ _ _ _ us hl => match us, hl with | [_], _ => rfl⟩⟩, T.g_is_integer, F.kp⟩
theorem sc_is_level : FnScope ["value"] ["value"] (defScope s_is_level) := ⟨rfl, rfl, rfl, by decide +kernel, rfl, by decide +kernel, by decide +kernel⟩
theorem body_is_level (T : Tx P w K mg base) {k : Nat} (hk : 1 ≤ k) {f : Addr} {cdv : Value} {A : Around} {outer : List PySem.Env} {s : Shared} {H : Hp} {E : XK} (hr : Room k (A.deeper (envOfC "is_level" (defScope s_is_level) s.heap.objs.size f cdv))) : MSs (cxOf (L2.CX P w) P w K mg base ["value"] "is_level" (defScope s_is_level) f cdv A outer s H E) (fun cls d _ H => E cls d H) (defBody s_is_level) b_is_level := by
  have hr := hr.mono hk
  have nd := sc_is_level.nd
  have tk : Takes (cxOf (L2.CX P w) P w K mg base ["value"] "is_level" (defScope s_is_level) f cdv A outer s H E) (fun cls d _ H => E cls d H) := takes_of rfl rfl rfl rfl
  have lp : PassesOwn (model P w) (A.deeper (envOfC "is_level" (defScope s_is_level) s.heap.objs.size f cdv)) (envOfC "is_level" (defScope s_is_level) s.heap.objs.size f cdv) (cxOf (L2.CX P w) P w K mg base ["value"] "is_level" (defScope s_is_level) f cdv A outer s H E).xe := passes_of (X := (cxOf (L2.CX P w) P w K mg base ["value"] "is_level" (defScope s_is_level) f cdv A outer s H E)) rfl
  exact (mss_cons (ms_ret (me_and (me_fnP (ok_is_integer T) 0 hr tk (ma_cons (mo_of (me_var 0)) ma_nil)) (me_one (me_chain op_le s_le op_le s_le (mo_of me_int) (mo_var 0) (mo_of (me_gint rfl T.i_MOST_LEVEL)))))) mss_nil)
theorem ok_is_level (T : Tx P w K mg base) : Fn P w K mg base 2 "is_level" ["value"] df_is_level m_is_level := by
  obtain ⟨fd, F⟩ := T.d_is_level
  exact ⟨⟨fd, def_ok (n := 1) 0 F sc_is_level rfl rfl fun cdv A outer s H E hr => body_is_level T (by decide) hr, lk_of F, fun j hj => by
    have e : j = 0 := by simpa [df_is_level] using hj
    subst e
    exact ⟨[], .nil, F.bindsN fun _ _ _ _ _ _ us hl => match us, hl with | [_], _ => rfl⟩⟩, T.g_is_level, F.kp⟩
theorem sc_square_free_of : FnScope ["n", "left", "found", "d", "many"] ["n"] (defScope s_square_free_of) := ⟨rfl, rfl, rfl, by decide +kernel, rfl, by decide +kernel, by decide +kernel⟩
theorem body_square_free_of (T : Tx P w K mg base) {k : Nat} (hk : 0 ≤ k) {f : Addr} {cdv : Value} {A : Around} {outer : List PySem.Env} {s : Shared} {H : Hp} {E : XK} (hr : Room k (A.deeper (envOfC "square_free_of" (defScope s_square_free_of) s.heap.objs.size f cdv))) : MSs (cxOf (L2.CX P w) P w K mg base ["n", "left", "found", "d", "many"] "square_free_of" (defScope s_square_free_of) f cdv A outer s H E) (fun cls d _ H => E cls d H) (defBody s_square_free_of) b_square_free_of := by
  have hr := hr.mono hk
  have nd := sc_square_free_of.nd
  have tk : Takes (cxOf (L2.CX P w) P w K mg base ["n", "left", "found", "d", "many"] "square_free_of" (defScope s_square_free_of) f cdv A outer s H E) (fun cls d _ H => E cls d H) := takes_of rfl rfl rfl rfl
  have lp : PassesOwn (model P w) (A.deeper (envOfC "square_free_of" (defScope s_square_free_of) s.heap.objs.size f cdv)) (envOfC "square_free_of" (defScope s_square_free_of) s.heap.objs.size f cdv) (cxOf (L2.CX P w) P w K mg base ["n", "left", "found", "d", "many"] "square_free_of" (defScope s_square_free_of) f cdv A outer s H E).xe := passes_of (X := (cxOf (L2.CX P w) P w K mg base ["n", "left", "found", "d", "many"] "square_free_of" (defScope s_square_free_of) f cdv A outer s H E)) rfl
  exact (mss_cons (ms_par3 (ps_par3 rfl nd rfl rfl rfl (by decide) (by decide) (by decide) rfl rfl rfl (mr_cons (me_abs T.n_abs (ma_cons (mo_var 0) ma_nil)) (mr_cons me_int (mr_cons me_int mr_nil))) (by rfl))) (mss_cons (ms_while lp (mt_cmp op_le s_le (mo_of (me_op op_mulAll s_mul (mo_var 3) (mo_var 3))) (mo_var 1) (nomark _)) (mss_cons (ms_set nd rfl (by first | exact Or.inl rfl | exact Or.inr rfl) me_int) (mss_cons (ms_while lp (mt_cmp (op_eqD (u64 hr)) s_eq (mo_of (me_op op_mod s_mod (mo_var 1) (mo_var 3))) (mo_of me_int) (nomark _)) (mss_cons (ms_par (ps_par rfl nd rfl rfl (by decide) rfl rfl (mr_cons (me_op op_fdiv s_fdiv (mo_var 1) (mo_var 3)) (mr_cons (me_op op_addAll s_add (mo_var 4) (mo_of me_int)) mr_nil)) (by rfl))) mss_nil)) (mss_cons (ms_if (mt_cmp (op_eqD (u64 hr)) s_eq (mo_of (me_op op_mod s_mod (mo_var 4) (mo_of me_int))) (mo_of me_int) (nomark _)) (mss_cons (ms_set nd rfl (by first | exact Or.inl rfl | exact Or.inr rfl) (me_op op_mulAll s_mul (mo_var 2) (mo_var 3))) mss_nil) mss_nil) (mss_cons (ms_aug s_iadd (ps_aug nd rfl (by first | exact Or.inl rfl | exact Or.inr rfl) (me_if (mt_cmp (op_eqD (u64 hr)) s_eq (mo_var 3) (mo_of me_int) (nomark _)) me_int me_int) iop_iadd)) mss_nil))))) (mss_cons (ms_ret (me_if (mt_cmp op_gt s_gt (mo_var 0) (mo_of me_int) (nomark _)) (me_op op_mulAll s_mul (mo_var 2) (mo_var 1)) (me_op op_mulAll s_mul (mo_of (me_un un_neg s_neg (mo_var 2))) (mo_var 1)))) mss_nil)))
theorem ok_square_free_of (T : Tx P w K mg base) : Fn P w K mg base 1 "square_free_of" ["n"] df_square_free_of m_square_free_of := by
  obtain ⟨fd, F⟩ := T.d_square_free_of
  exact ⟨⟨fd, def_ok (n := 1) 4 F sc_square_free_of rfl rfl fun cdv A outer s H E hr => body_square_free_of T (by decide) hr, lk_of F, fun j hj => by
    have e : j = 0 := by simpa [df_square_free_of] using hj
    subst e
    exact ⟨[], .nil, F.bindsN fun _ _ _ _ _ _ us hl => match us, hl with | [_], _ => rfl⟩⟩, T.g_square_free_of, F.kp⟩
theorem sc_conductor_of : FnScope ["s"] ["s"] (defScope s_conductor_of) := ⟨rfl, rfl, rfl, by decide +kernel, rfl, by decide +kernel, by decide +kernel⟩
theorem body_conductor_of (T : Tx P w K mg base) {k : Nat} (hk : 0 ≤ k) {f : Addr} {cdv : Value} {A : Around} {outer : List PySem.Env} {s : Shared} {H : Hp} {E : XK} (hr : Room k (A.deeper (envOfC "conductor_of" (defScope s_conductor_of) s.heap.objs.size f cdv))) : MSs (cxOf (L2.CX P w) P w K mg base ["s"] "conductor_of" (defScope s_conductor_of) f cdv A outer s H E) (fun cls d _ H => E cls d H) (defBody s_conductor_of) b_conductor_of := by
  have hr := hr.mono hk
  have nd := sc_conductor_of.nd
  have tk : Takes (cxOf (L2.CX P w) P w K mg base ["s"] "conductor_of" (defScope s_conductor_of) f cdv A outer s H E) (fun cls d _ H => E cls d H) := takes_of rfl rfl rfl rfl
  have lp : PassesOwn (model P w) (A.deeper (envOfC "conductor_of" (defScope s_conductor_of) s.heap.objs.size f cdv)) (envOfC "conductor_of" (defScope s_conductor_of) s.heap.objs.size f cdv) (cxOf (L2.CX P w) P w K mg base ["s"] "conductor_of" (defScope s_conductor_of) f cdv A outer s H E).xe := passes_of (X := (cxOf (L2.CX P w) P w K mg base ["s"] "conductor_of" (defScope s_conductor_of) f cdv A outer s H E)) rfl
  exact (mss_cons (ms_ret (me_if (mt_cmp (op_eqD (u64 hr)) s_eq (mo_of (me_op op_mod s_mod (mo_var 0) (mo_of me_int))) (mo_of me_int) (nomark _)) (me_abs T.n_abs (ma_cons (mo_var 0) ma_nil)) (me_op op_mulAll s_mul (mo_of me_int) (mo_of (me_abs T.n_abs (ma_cons (mo_var 0) ma_nil)))))) mss_nil)
theorem ok_conductor_of (T : Tx P w K mg base) : Fn P w K mg base 1 "conductor_of" ["s"] df_conductor_of m_conductor_of := by
  obtain ⟨fd, F⟩ := T.d_conductor_of
  exact ⟨⟨fd, def_ok (n := 1) 0 F sc_conductor_of rfl rfl fun cdv A outer s H E hr => body_conductor_of T (by decide) hr, lk_of F, fun j hj => by
    have e : j = 0 := by simpa [df_conductor_of] using hj
    subst e
    exact ⟨[], .nil, F.bindsN fun _ _ _ _ _ _ us hl => match us, hl with | [_], _ => rfl⟩⟩, T.g_conductor_of, F.kp⟩
theorem sc_is_sign : FnScope ["level", "weight", "value"] ["level", "weight", "value"] (defScope s_is_sign) := ⟨rfl, rfl, rfl, by decide +kernel, rfl, by decide +kernel, by decide +kernel⟩
theorem body_is_sign (T : Tx P w K mg base) {k : Nat} (hk : 1 ≤ k) {f : Addr} {cdv : Value} {A : Around} {outer : List PySem.Env} {s : Shared} {H : Hp} {E : XK} (hr : Room k (A.deeper (envOfC "is_sign" (defScope s_is_sign) s.heap.objs.size f cdv))) : MSs (cxOf (L2.CX P w) P w K mg base ["level", "weight", "value"] "is_sign" (defScope s_is_sign) f cdv A outer s H E) (fun cls d _ H => E cls d H) (defBody s_is_sign) b_is_sign := by
  have hr := hr.mono hk
  have nd := sc_is_sign.nd
  have tk : Takes (cxOf (L2.CX P w) P w K mg base ["level", "weight", "value"] "is_sign" (defScope s_is_sign) f cdv A outer s H E) (fun cls d _ H => E cls d H) := takes_of rfl rfl rfl rfl
  have lp : PassesOwn (model P w) (A.deeper (envOfC "is_sign" (defScope s_is_sign) s.heap.objs.size f cdv)) (envOfC "is_sign" (defScope s_is_sign) s.heap.objs.size f cdv) (cxOf (L2.CX P w) P w K mg base ["level", "weight", "value"] "is_sign" (defScope s_is_sign) f cdv A outer s H E).xe := passes_of (X := (cxOf (L2.CX P w) P w K mg base ["level", "weight", "value"] "is_sign" (defScope s_is_sign) f cdv A outer s H E)) rfl
  exact (mss_cons (ms_if (mt_w (mw_or (mt_not (mt_val (me_fnP (ok_is_integer T) 0 hr tk (ma_cons (mo_of (me_var 2)) ma_nil)))) (mw_or (mt_cmp (op_eqD (u64 hr)) s_eq (mo_var 2) (mo_of me_int) (nomark _)) (mw_or (mt_cmp op_gt s_gt (mo_of (me_abs T.n_abs (ma_cons (mo_var 2) ma_nil))) (mo_of (me_gint rfl T.i_MOST_LEVEL)) (nomark _)) (mw_or1 (mt_cmp (op_neD (u64 hr)) s_ne (mo_of (me_fnP (ok_square_free_of T) 0 hr tk (ma_cons (mo_of (me_var 2)) ma_nil))) (mo_var 2) (nomark _))))))) (mss_cons (ms_ret me_bl) mss_nil) mss_nil) (mss_cons (ms_ret (me_and (me_cmp (op_eqD (u64 hr)) s_eq (mo_of (me_cmp op_lt s_lt (mo_var 2) (mo_of me_int) (nomark _))) (mo_of (me_cmp (op_eqD (u64 hr)) s_eq (mo_of (me_op op_mod s_mod (mo_var 1) (mo_of me_int))) (mo_of me_int) (nomark _))) (nomark _)) (me_one (me_cmp (op_eqD (u64 hr)) s_eq (mo_of (me_op op_mod s_mod (mo_var 0) (mo_of (me_fnP (ok_conductor_of T) 0 hr tk (ma_cons (mo_of (me_var 2)) ma_nil))))) (mo_of me_int) (nomark _))))) mss_nil))
theorem ok_is_sign (T : Tx P w K mg base) : Fn P w K mg base 2 "is_sign" ["level", "weight", "value"] df_is_sign m_is_sign := by
  obtain ⟨fd, F⟩ := T.d_is_sign
  exact ⟨⟨fd, def_ok (n := 3) 0 F sc_is_sign rfl rfl fun cdv A outer s H E hr => body_is_sign T (by decide) hr, lk_of F, fun j hj => by
    have e : j = 0 := by simpa [df_is_sign] using hj
    subst e
    exact ⟨[], .nil, F.bindsN fun _ _ _ _ _ _ us hl => match us, hl with | [_, _, _], _ => rfl⟩⟩, T.g_is_sign, F.kp⟩
theorem sc_Room_m___init__ : FnScope ["self", "level", "weight", "sign"] ["self", "level", "weight", "sign"] (defScope s_Room_m___init__) := ⟨rfl, rfl, rfl, by decide +kernel, rfl, by decide +kernel, by decide +kernel⟩
theorem body_Room_m___init__ (T : Tx P w K mg base) {k : Nat} (hk : 2 ≤ k) {f : Addr} {cdv : Value} {A : Around} {outer : List PySem.Env} {s : Shared} {H : Hp} {E : XK} (hr : Room k (A.deeper (envOfC "Room.__init__" (defScope s_Room_m___init__) s.heap.objs.size f cdv))) : MSs (cxOf (L2.CX P w) P w K mg base ["self", "level", "weight", "sign"] "Room.__init__" (defScope s_Room_m___init__) f cdv A outer s H E) (fun cls d _ H => E cls d H) (defBody s_Room_m___init__) b_Room_m___init__ := by
  have hr := hr.mono hk
  have nd := sc_Room_m___init__.nd
  have tk : Takes (cxOf (L2.CX P w) P w K mg base ["self", "level", "weight", "sign"] "Room.__init__" (defScope s_Room_m___init__) f cdv A outer s H E) (fun cls d _ H => E cls d H) := takes_of rfl rfl rfl rfl
  have lp : PassesOwn (model P w) (A.deeper (envOfC "Room.__init__" (defScope s_Room_m___init__) s.heap.objs.size f cdv)) (envOfC "Room.__init__" (defScope s_Room_m___init__) s.heap.objs.size f cdv) (cxOf (L2.CX P w) P w K mg base ["self", "level", "weight", "sign"] "Room.__init__" (defScope s_Room_m___init__) f cdv A outer s H E).xe := passes_of (X := (cxOf (L2.CX P w) P w K mg base ["self", "level", "weight", "sign"] "Room.__init__" (defScope s_Room_m___init__) f cdv A outer s H E)) rfl
  exact (mss_cons (ms_if (mt_not (mt_val (me_fnP (ok_is_level T) 0 hr tk (ma_cons (mo_of (me_var 1)) ma_nil)))) (mss_cons (ms_raise T.x_BadRoom rfl tk hr (by decide) (ma_cons (mo_of me_str) ma_nil)) mss_nil) mss_nil) (mss_cons (ms_if (mt_w (mw_or (mt_not (mt_val (me_fnP (ok_is_integer T) 0 hr tk (ma_cons (mo_of (me_var 2)) ma_nil)))) (mw_or1 (mt_not (mt_chain op_le s_le op_le s_le (mo_of me_int) (mo_var 2) (mo_of (me_gint rfl T.i_MOST_WEIGHT))))))) (mss_cons (ms_raise T.x_BadRoom rfl tk hr (by decide) (ma_cons (mo_of me_str) ma_nil)) mss_nil) mss_nil) (mss_cons (ms_if (mt_not (mt_val (me_fnP (ok_is_sign T) 0 hr tk (ma_cons (mo_of (me_var 1)) (ma_cons (mo_of (me_var 2)) (ma_cons (mo_of (me_var 3)) ma_nil)))))) (mss_cons (ms_raise T.x_BadRoom rfl tk hr (by decide) (ma_cons (mo_of me_str) ma_nil)) mss_nil) mss_nil) (mss_cons (ms_setF T.cls (ps_fld (pv 0) (me_var 1) (by rfl))) (mss_cons (ms_setF T.cls (ps_fld (pv 0) (me_var 2) (by rfl))) (mss_cons (ms_setF T.cls (ps_fld (pv 0) (me_var 3) (by rfl))) mss_nil))))))
theorem ok_Room_m___init__ (T : Tx P w K mg base) : FnM P w K mg base 3 (He.ma K (He.ga K "Room") "__init__") ["self", "level", "weight", "sign"] df_Room_m___init__ m_Room_m___init__ := by
  obtain ⟨fd, F⟩ := T.d_Room_m___init__
  exact ⟨⟨fd, def_ok (n := 4) 0 F sc_Room_m___init__ rfl rfl fun cdv A outer s H E hr => body_Room_m___init__ T (by decide) hr, lk_of F, fun j hj => by
    have e : j = 0 := by simpa [df_Room_m___init__] using hj
    subst e
    exact ⟨[], .nil, F.bindsN fun _ _ _ _ _ _ us hl => match us, hl with | [_, _, _, _], _ => rfl⟩⟩⟩
theorem sc_Room_m___eq__ : FnScope ["self", "other"] ["self", "other"] (defScope s_Room_m___eq__) := ⟨rfl, rfl, rfl, by decide +kernel, rfl, by decide +kernel, by decide +kernel⟩
theorem body_Room_m___eq__ (T : Tx P w K mg base) {k : Nat} (hk : 0 ≤ k) {f : Addr} {cdv : Value} {A : Around} {outer : List PySem.Env} {s : Shared} {H : Hp} {E : XK} (hr : Room k (A.deeper (envOfC "Room.__eq__" (defScope s_Room_m___eq__) s.heap.objs.size f cdv))) : MSs (cxOf (L2.CX P w) P w K mg base ["self", "other"] "Room.__eq__" (defScope s_Room_m___eq__) f cdv A outer s H E) (fun cls d _ H => E cls d H) (defBody s_Room_m___eq__) b_Room_m___eq__ := by
  have hr := hr.mono hk
  have nd := sc_Room_m___eq__.nd
  have tk : Takes (cxOf (L2.CX P w) P w K mg base ["self", "other"] "Room.__eq__" (defScope s_Room_m___eq__) f cdv A outer s H E) (fun cls d _ H => E cls d H) := takes_of rfl rfl rfl rfl
  have lp : PassesOwn (model P w) (A.deeper (envOfC "Room.__eq__" (defScope s_Room_m___eq__) s.heap.objs.size f cdv)) (envOfC "Room.__eq__" (defScope s_Room_m___eq__) s.heap.objs.size f cdv) (cxOf (L2.CX P w) P w K mg base ["self", "other"] "Room.__eq__" (defScope s_Room_m___eq__) f cdv A outer s H E).xe := passes_of (X := (cxOf (L2.CX P w) P w K mg base ["self", "other"] "Room.__eq__" (defScope s_Room_m___eq__) f cdv A outer s H E)) rfl
  exact (mss_cons (ms_if (mt_not (mt_val (me_isC T.cls T.g_Room (mo_var 1) (hm := T.n_isinstance)))) (mss_cons (ms_ret me_bl) mss_nil) mss_nil) (mss_cons (ms_ret (me_cmp (op_eqD (u64 hr)) s_eq (mo_of (me_tup (ma_cons (mo_of (me_fld T.cls (mo_var 0))) (ma_cons (mo_of (me_fld T.cls (mo_var 0))) (ma_cons (mo_of (me_fld T.cls (mo_var 0))) ma_nil))))) (mo_of (me_tup (ma_cons (mo_of (me_fld T.cls (mo_var 1))) (ma_cons (mo_of (me_fld T.cls (mo_var 1))) (ma_cons (mo_of (me_fld T.cls (mo_var 1))) ma_nil))))) (nomark _))) mss_nil))
theorem ok_Room_m___eq__ (T : Tx P w K mg base) : FnM P w K mg base 1 (He.ma K (He.ga K "Room") "__eq__") ["self", "other"] df_Room_m___eq__ m_Room_m___eq__ := by
  obtain ⟨fd, F⟩ := T.d_Room_m___eq__
  exact ⟨⟨fd, def_ok (n := 2) 0 F sc_Room_m___eq__ rfl rfl fun cdv A outer s H E hr => body_Room_m___eq__ T (by decide) hr, lk_of F, fun j hj => by
    have e : j = 0 := by simpa [df_Room_m___eq__] using hj
    subst e
    exact ⟨[], .nil, F.bindsN fun _ _ _ _ _ _ us hl => match us, hl with | [_, _], _ => rfl⟩⟩⟩
theorem sc_need_room : FnScope ["value"] ["value"] (defScope s_need_room) := ⟨rfl, rfl, rfl, by decide +kernel, rfl, by decide +kernel, by decide +kernel⟩
theorem body_need_room (T : Tx P w K mg base) {k : Nat} (hk : 1 ≤ k) {f : Addr} {cdv : Value} {A : Around} {outer : List PySem.Env} {s : Shared} {H : Hp} {E : XK} (hr : Room k (A.deeper (envOfC "need_room" (defScope s_need_room) s.heap.objs.size f cdv))) : MSs (cxOf (L2.CX P w) P w K mg base ["value"] "need_room" (defScope s_need_room) f cdv A outer s H E) (fun cls d _ H => E cls d H) (defBody s_need_room) b_need_room := by
  have hr := hr.mono hk
  have nd := sc_need_room.nd
  have tk : Takes (cxOf (L2.CX P w) P w K mg base ["value"] "need_room" (defScope s_need_room) f cdv A outer s H E) (fun cls d _ H => E cls d H) := takes_of rfl rfl rfl rfl
  have lp : PassesOwn (model P w) (A.deeper (envOfC "need_room" (defScope s_need_room) s.heap.objs.size f cdv)) (envOfC "need_room" (defScope s_need_room) s.heap.objs.size f cdv) (cxOf (L2.CX P w) P w K mg base ["value"] "need_room" (defScope s_need_room) f cdv A outer s H E).xe := passes_of (X := (cxOf (L2.CX P w) P w K mg base ["value"] "need_room" (defScope s_need_room) f cdv A outer s H E)) rfl
  exact (mss_cons (ms_if (mt_not (mt_val (me_isC T.cls T.g_Room (mo_var 0) (hm := T.n_isinstance)))) (mss_cons (ms_raise T.x_BadItem rfl tk hr (by decide) (ma_cons (mo_of (me_var 0)) ma_nil)) mss_nil) mss_nil) mss_nil)
theorem ok_need_room (T : Tx P w K mg base) : Fn P w K mg base 2 "need_room" ["value"] df_need_room m_need_room := by
  obtain ⟨fd, F⟩ := T.d_need_room
  exact ⟨⟨fd, def_ok (n := 1) 0 F sc_need_room rfl rfl fun cdv A outer s H E hr => body_need_room T (by decide) hr, lk_of F, fun j hj => by
    have e : j = 0 := by simpa [df_need_room] using hj
    subst e
    exact ⟨[], .nil, F.bindsN fun _ _ _ _ _ _ us hl => match us, hl with | [_], _ => rfl⟩⟩, T.g_need_room, F.kp⟩
theorem sc_need_multiple : FnScope ["level", "value"] ["level", "value"] (defScope s_need_multiple) := ⟨rfl, rfl, rfl, by decide +kernel, rfl, by decide +kernel, by decide +kernel⟩
theorem body_need_multiple (T : Tx P w K mg base) {k : Nat} (hk : 2 ≤ k) {f : Addr} {cdv : Value} {A : Around} {outer : List PySem.Env} {s : Shared} {H : Hp} {E : XK} (hr : Room k (A.deeper (envOfC "need_multiple" (defScope s_need_multiple) s.heap.objs.size f cdv))) : MSs (cxOf (L2.CX P w) P w K mg base ["level", "value"] "need_multiple" (defScope s_need_multiple) f cdv A outer s H E) (fun cls d _ H => E cls d H) (defBody s_need_multiple) b_need_multiple := by
  have hr := hr.mono hk
  have nd := sc_need_multiple.nd
  have tk : Takes (cxOf (L2.CX P w) P w K mg base ["level", "value"] "need_multiple" (defScope s_need_multiple) f cdv A outer s H E) (fun cls d _ H => E cls d H) := takes_of rfl rfl rfl rfl
  have lp : PassesOwn (model P w) (A.deeper (envOfC "need_multiple" (defScope s_need_multiple) s.heap.objs.size f cdv)) (envOfC "need_multiple" (defScope s_need_multiple) s.heap.objs.size f cdv) (cxOf (L2.CX P w) P w K mg base ["level", "value"] "need_multiple" (defScope s_need_multiple) f cdv A outer s H E).xe := passes_of (X := (cxOf (L2.CX P w) P w K mg base ["level", "value"] "need_multiple" (defScope s_need_multiple) f cdv A outer s H E)) rfl
  exact (mss_cons (ms_if (mt_w (mw_or (mt_not (mt_val (me_fnP (ok_is_integer T) 0 hr tk (ma_cons (mo_of (me_var 1)) ma_nil)))) (mw_or (mt_cmp op_lt s_lt (mo_var 1) (mo_of me_int) (nomark _)) (mw_or1 (mt_cmp (op_neD (u64 hr)) s_ne (mo_of (me_op op_mod s_mod (mo_var 1) (mo_var 0))) (mo_of me_int) (nomark _)))))) (mss_cons (ms_raise T.x_BadNumber rfl tk hr (by decide) (ma_cons (mo_of me_str) (ma_cons (mo_of (me_var 1)) ma_nil))) mss_nil) mss_nil) (mss_cons (ms_if (mt_not (mt_val (me_fnP (ok_is_level T) 0 hr tk (ma_cons (mo_of (me_var 1)) ma_nil)))) (mss_cons (ms_raise T.x_BadRoom rfl tk hr (by decide) (ma_cons (mo_of me_str) ma_nil)) mss_nil) mss_nil) mss_nil))
theorem ok_need_multiple (T : Tx P w K mg base) : Fn P w K mg base 3 "need_multiple" ["level", "value"] df_need_multiple m_need_multiple := by
  obtain ⟨fd, F⟩ := T.d_need_multiple
  exact ⟨⟨fd, def_ok (n := 2) 0 F sc_need_multiple rfl rfl fun cdv A outer s H E hr => body_need_multiple T (by decide) hr, lk_of F, fun j hj => by
    have e : j = 0 := by simpa [df_need_multiple] using hj
    subst e
    exact ⟨[], .nil, F.bindsN fun _ _ _ _ _ _ us hl => match us, hl with | [_, _], _ => rfl⟩⟩, T.g_need_multiple, F.kp⟩
theorem sc_room_at : FnScope ["room", "level"] ["room", "level"] (defScope s_room_at) := ⟨rfl, rfl, rfl, by decide +kernel, rfl, by decide +kernel, by decide +kernel⟩
theorem body_room_at (T : Tx P w K mg base) {k : Nat} (hk : 4 ≤ k) {f : Addr} {cdv : Value} {A : Around} {outer : List PySem.Env} {s : Shared} {H : Hp} {E : XK} (hr : Room k (A.deeper (envOfC "room_at" (defScope s_room_at) s.heap.objs.size f cdv))) : MSs (cxOf (L2.CX P w) P w K mg base ["room", "level"] "room_at" (defScope s_room_at) f cdv A outer s H E) (fun cls d _ H => E cls d H) (defBody s_room_at) b_room_at := by
  have hr := hr.mono hk
  have nd := sc_room_at.nd
  have tk : Takes (cxOf (L2.CX P w) P w K mg base ["room", "level"] "room_at" (defScope s_room_at) f cdv A outer s H E) (fun cls d _ H => E cls d H) := takes_of rfl rfl rfl rfl
  have lp : PassesOwn (model P w) (A.deeper (envOfC "room_at" (defScope s_room_at) s.heap.objs.size f cdv)) (envOfC "room_at" (defScope s_room_at) s.heap.objs.size f cdv) (cxOf (L2.CX P w) P w K mg base ["room", "level"] "room_at" (defScope s_room_at) f cdv A outer s H E).xe := passes_of (X := (cxOf (L2.CX P w) P w K mg base ["room", "level"] "room_at" (defScope s_room_at) f cdv A outer s H E)) rfl
  exact (mss_cons (ms_expr (me_fnP (ok_need_room T) 0 hr tk (ma_cons (mo_of (me_var 0)) ma_nil))) (mss_cons (ms_expr (me_fnP (ok_need_multiple T) 0 hr tk (ma_cons (mo_of (me_fld T.cls (mo_var 0))) (ma_cons (mo_of (me_var 1)) ma_nil)))) (mss_cons (ms_ret (me_make T.cls (ok_Room_m___init__ T) T.g_Room 0 hr tk (ma_cons (mo_of (me_var 1)) (ma_cons (mo_of (me_fld T.cls (mo_var 0))) (ma_cons (mo_of (me_fld T.cls (mo_var 0))) ma_nil))))) mss_nil)))
theorem ok_room_at (T : Tx P w K mg base) : Fn P w K mg base 5 "room_at" ["room", "level"] df_room_at m_room_at := by
  obtain ⟨fd, F⟩ := T.d_room_at
  exact ⟨⟨fd, def_ok (n := 2) 0 F sc_room_at rfl rfl fun cdv A outer s H E hr => body_room_at T (by decide) hr, lk_of F, fun j hj => by
    have e : j = 0 := by simpa [df_room_at] using hj
    subst e
    exact ⟨[], .nil, F.bindsN fun _ _ _ _ _ _ us hl => match us, hl with | [_, _], _ => rfl⟩⟩, T.g_room_at, F.kp⟩
theorem sc_law : FnScope ["script", "pen", "lap", "sign", "level", "weight", "due", "told", "other", "fault", "found", "bad", "at", "wrong", "values", "odd"] ["script"] (defScope s_law) := ⟨rfl, rfl, rfl, by decide +kernel, rfl, by decide +kernel, by decide +kernel⟩
theorem eq_all (T : Tx P w K mg base) : EqAll P w K mg base 1 eqs := fun q hq => by
  simp only [eqs, List.mem_cons, List.not_mem_nil, or_false] at hq
  rcases hq with rfl
  · exact ⟨["self", "other"], _, rfl, by decide, ok_Room_m___eq__ T⟩
theorem lamb_0 (T : Tx P w K mg base) {A : Around} {outer : List PySem.Env} {s : Shared} {H : Hp} {E : XK} {A1 : Around} {outer1 : List PySem.Env} {s1 : Shared} {H1 : Hp} {E1 : XK} {f1 c1 : Addr} {k : Nat} (hk : 5 ≤ k) (hr : Room k (A1.deeper (LamX.lamEnv (cxOf (L2.CX P w) P w K mg base ["script", "pen", "lap", "sign", "level", "weight", "due", "told", "other", "fault", "found", "bad", "at", "wrong", "values", "odd"] "law" (defScope s_law) (He.ga K "law") (.ref (He.codeOf K ("law", none))) A outer s H E) (lam_0).scope s1.heap.objs.size f1 c1))) (hgd : A1.guards = some []) :
    ME (LamX.lamCx (cxOf (L2.CX P w) P w K mg base ["script", "pen", "lap", "sign", "level", "weight", "due", "told", "other", "fault", "found", "bad", "at", "wrong", "values", "odd"] "law" (defScope s_law) (He.ga K "law") (.ref (He.codeOf K ("law", none))) A outer s H E) A1 outer1 s1 H1 E1 (lam_0).scope f1 c1) (fun cl dd _ J => E1 cl dd J) (lam_0).body (mCallP (df_room_at.drop 0) m_room_at (mAc (oVal (mVar 15)) (mAc (oVal (mK .non)) mA0))) := by
  have hr := hr.mono hk
  have nd := sc_law.nd
  have tk : Takes (LamX.lamCx (cxOf (L2.CX P w) P w K mg base ["script", "pen", "lap", "sign", "level", "weight", "due", "told", "other", "fault", "found", "bad", "at", "wrong", "values", "odd"] "law" (defScope s_law) (He.ga K "law") (.ref (He.codeOf K ("law", none))) A outer s H E) A1 outer1 s1 H1 E1 (lam_0).scope f1 c1) (fun cl dd _ J => E1 cl dd J) := takes_of rfl rfl rfl rfl
  exact (me_fnP (ok_room_at T) 0 hr tk (ma_cons (mo_of (me_var 15)) (ma_cons (mo_of me_non) ma_nil)))
theorem lamb_1 (T : Tx P w K mg base) {A : Around} {outer : List PySem.Env} {s : Shared} {H : Hp} {E : XK} {A1 : Around} {outer1 : List PySem.Env} {s1 : Shared} {H1 : Hp} {E1 : XK} {f1 c1 : Addr} {k : Nat} (hk : 4 ≤ k) (hr : Room k (A1.deeper (LamX.lamEnv (cxOf (L2.CX P w) P w K mg base ["script", "pen", "lap", "sign", "level", "weight", "due", "told", "other", "fault", "found", "bad", "at", "wrong", "values", "odd"] "law" (defScope s_law) (He.ga K "law") (.ref (He.codeOf K ("law", none))) A outer s H E) (lam_1).scope s1.heap.objs.size f1 c1))) (hgd : A1.guards = some []) :
    ME (LamX.lamCx (cxOf (L2.CX P w) P w K mg base ["script", "pen", "lap", "sign", "level", "weight", "due", "told", "other", "fault", "found", "bad", "at", "wrong", "values", "odd"] "law" (defScope s_law) (He.ga K "law") (.ref (He.codeOf K ("law", none))) A outer s H E) A1 outer1 s1 H1 E1 (lam_1).scope f1 c1) (fun cl dd _ J => E1 cl dd J) (lam_1).body (mMake "Room" (df_Room_m___init__.drop 0) m_Room_m___init__ (mAc (oVal (mOp dIx (oVar 14) (oVal (mK (.int 0))))) (mAc (oVal (mOp dIx (oVar 14) (oVal (mK (.int 1))))) (mAc (oVal (mOp dIx (oVar 14) (oVal (mK (.int 2))))) mA0)))) := by
  have hr := hr.mono hk
  have nd := sc_law.nd
  have tk : Takes (LamX.lamCx (cxOf (L2.CX P w) P w K mg base ["script", "pen", "lap", "sign", "level", "weight", "due", "told", "other", "fault", "found", "bad", "at", "wrong", "values", "odd"] "law" (defScope s_law) (He.ga K "law") (.ref (He.codeOf K ("law", none))) A outer s H E) A1 outer1 s1 H1 E1 (lam_1).scope f1 c1) (fun cl dd _ J => E1 cl dd J) := takes_of rfl rfl rfl rfl
  exact (me_make T.cls (ok_Room_m___init__ T) T.g_Room 0 hr tk (ma_cons (mo_of (me_ix (mo_var 14) (mo_of me_int))) (ma_cons (mo_of (me_ix (mo_var 14) (mo_of me_int))) (ma_cons (mo_of (me_ix (mo_var 14) (mo_of me_int))) ma_nil))))
theorem lamb_2 (T : Tx P w K mg base) {A : Around} {outer : List PySem.Env} {s : Shared} {H : Hp} {E : XK} {A1 : Around} {outer1 : List PySem.Env} {s1 : Shared} {H1 : Hp} {E1 : XK} {f1 c1 : Addr} {k : Nat} (hk : 5 ≤ k) (hr : Room k (A1.deeper (LamX.lamEnv (cxOf (L2.CX P w) P w K mg base ["script", "pen", "lap", "sign", "level", "weight", "due", "told", "other", "fault", "found", "bad", "at", "wrong", "values", "odd"] "law" (defScope s_law) (He.ga K "law") (.ref (He.codeOf K ("law", none))) A outer s H E) (lam_2).scope s1.heap.objs.size f1 c1))) (hgd : A1.guards = some []) :
    ME (LamX.lamCx (cxOf (L2.CX P w) P w K mg base ["script", "pen", "lap", "sign", "level", "weight", "due", "told", "other", "fault", "found", "bad", "at", "wrong", "values", "odd"] "law" (defScope s_law) (He.ga K "law") (.ref (He.codeOf K ("law", none))) A outer s H E) A1 outer1 s1 H1 E1 (lam_2).scope f1 c1) (fun cl dd _ J => E1 cl dd J) (lam_2).body (mCallP (df_room_at.drop 0) m_room_at (mAc (oVal (mOp dIx (oVar 7) (oVal (mK (.int 1))))) (mAc (oVal (mVar 11)) mA0))) := by
  have hr := hr.mono hk
  have nd := sc_law.nd
  have tk : Takes (LamX.lamCx (cxOf (L2.CX P w) P w K mg base ["script", "pen", "lap", "sign", "level", "weight", "due", "told", "other", "fault", "found", "bad", "at", "wrong", "values", "odd"] "law" (defScope s_law) (He.ga K "law") (.ref (He.codeOf K ("law", none))) A outer s H E) A1 outer1 s1 H1 E1 (lam_2).scope f1 c1) (fun cl dd _ J => E1 cl dd J) := takes_of rfl rfl rfl rfl
  exact (me_fnP (ok_room_at T) 0 hr tk (ma_cons (mo_of (me_ix (mo_var 7) (mo_of me_int))) (ma_cons (mo_of (me_var 11)) ma_nil)))
theorem lamb_3 (T : Tx P w K mg base) {A : Around} {outer : List PySem.Env} {s : Shared} {H : Hp} {E : XK} {A1 : Around} {outer1 : List PySem.Env} {s1 : Shared} {H1 : Hp} {E1 : XK} {f1 c1 : Addr} {k : Nat} (hk : 5 ≤ k) (hr : Room k (A1.deeper (LamX.lamEnv (cxOf (L2.CX P w) P w K mg base ["script", "pen", "lap", "sign", "level", "weight", "due", "told", "other", "fault", "found", "bad", "at", "wrong", "values", "odd"] "law" (defScope s_law) (He.ga K "law") (.ref (He.codeOf K ("law", none))) A outer s H E) (lam_3).scope s1.heap.objs.size f1 c1))) (hgd : A1.guards = some []) :
    ME (LamX.lamCx (cxOf (L2.CX P w) P w K mg base ["script", "pen", "lap", "sign", "level", "weight", "due", "told", "other", "fault", "found", "bad", "at", "wrong", "values", "odd"] "law" (defScope s_law) (He.ga K "law") (.ref (He.codeOf K ("law", none))) A outer s H E) A1 outer1 s1 H1 E1 (lam_3).scope f1 c1) (fun cl dd _ J => E1 cl dd J) (lam_3).body (mCallP (df_room_at.drop 0) m_room_at (mAc (oVal (mOp dIx (oVar 7) (oVal (mK (.int 1))))) (mAc (oVal (mVar 8)) mA0))) := by
  have hr := hr.mono hk
  have nd := sc_law.nd
  have tk : Takes (LamX.lamCx (cxOf (L2.CX P w) P w K mg base ["script", "pen", "lap", "sign", "level", "weight", "due", "told", "other", "fault", "found", "bad", "at", "wrong", "values", "odd"] "law" (defScope s_law) (He.ga K "law") (.ref (He.codeOf K ("law", none))) A outer s H E) A1 outer1 s1 H1 E1 (lam_3).scope f1 c1) (fun cl dd _ J => E1 cl dd J) := takes_of rfl rfl rfl rfl
  exact (me_fnP (ok_room_at T) 0 hr tk (ma_cons (mo_of (me_ix (mo_var 7) (mo_of me_int))) (ma_cons (mo_of (me_var 8)) ma_nil)))
theorem lamb_4 (T : Tx P w K mg base) {A : Around} {outer : List PySem.Env} {s : Shared} {H : Hp} {E : XK} {A1 : Around} {outer1 : List PySem.Env} {s1 : Shared} {H1 : Hp} {E1 : XK} {f1 c1 : Addr} {k : Nat} (hk : 4 ≤ k) (hr : Room k (A1.deeper (LamX.lamEnv (cxOf (L2.CX P w) P w K mg base ["script", "pen", "lap", "sign", "level", "weight", "due", "told", "other", "fault", "found", "bad", "at", "wrong", "values", "odd"] "law" (defScope s_law) (He.ga K "law") (.ref (He.codeOf K ("law", none))) A outer s H E) (lam_4).scope s1.heap.objs.size f1 c1))) (hgd : A1.guards = some []) :
    ME (LamX.lamCx (cxOf (L2.CX P w) P w K mg base ["script", "pen", "lap", "sign", "level", "weight", "due", "told", "other", "fault", "found", "bad", "at", "wrong", "values", "odd"] "law" (defScope s_law) (He.ga K "law") (.ref (He.codeOf K ("law", none))) A outer s H E) A1 outer1 s1 H1 E1 (lam_4).scope f1 c1) (fun cl dd _ J => E1 cl dd J) (lam_4).body (mMake "Room" (df_Room_m___init__.drop 0) m_Room_m___init__ (mAc (oVal (mVar 4)) (mAc (oVal (mVar 5)) (mAc (oVal (mVar 3)) mA0)))) := by
  have hr := hr.mono hk
  have nd := sc_law.nd
  have tk : Takes (LamX.lamCx (cxOf (L2.CX P w) P w K mg base ["script", "pen", "lap", "sign", "level", "weight", "due", "told", "other", "fault", "found", "bad", "at", "wrong", "values", "odd"] "law" (defScope s_law) (He.ga K "law") (.ref (He.codeOf K ("law", none))) A outer s H E) A1 outer1 s1 H1 E1 (lam_4).scope f1 c1) (fun cl dd _ J => E1 cl dd J) := takes_of rfl rfl rfl rfl
  exact (me_make T.cls (ok_Room_m___init__ T) T.g_Room 0 hr tk (ma_cons (mo_of (me_var 4)) (ma_cons (mo_of (me_var 5)) (ma_cons (mo_of (me_var 3)) ma_nil))))
theorem lmok_law (T : Tx P w K mg base) {A : Around} {outer : List PySem.Env} {s : Shared} {H : Hp} {E : XK} : ∀ k m cl L, lm_law (envOfC "law" (defScope s_law) s.heap.objs.size (He.ga K "law") (.ref (He.codeOf K ("law", none)))).cells k = some (m, cl) → tb.lams[k]? = some L → LamF (cxOf (L2.CX P w) P w K mg base ["script", "pen", "lap", "sign", "level", "weight", "due", "told", "other", "fault", "found", "bad", "at", "wrong", "values", "odd"] "law" (defScope s_law) (He.ga K "law") (.ref (He.codeOf K ("law", none))) A outer s H E) L ∧ cl = cloFrom ((cxOf (L2.CX P w) P w K mg base ["script", "pen", "lap", "sign", "level", "weight", "due", "told", "other", "fault", "found", "bad", "at", "wrong", "values", "odd"] "law" (defScope s_law) (He.ga K "law") (.ref (He.codeOf K ("law", none))) A outer s H E)).env.cells L.scope.names [] ∧ ∀ (A1 : Around) (outer1 : List PySem.Env) (s1 : Shared) (H1 : Hp) (E1 : XK) (f1 c1 : Addr) (z : Nat), Room 5 (A1.deeper (LamX.lamEnv (cxOf (L2.CX P w) P w K mg base ["script", "pen", "lap", "sign", "level", "weight", "due", "told", "other", "fault", "found", "bad", "at", "wrong", "values", "odd"] "law" (defScope s_law) (He.ga K "law") (.ref (He.codeOf K ("law", none))) A outer s H E) L.scope z f1 c1)) → A1.guards = some [] → ME (LamX.lamCx (cxOf (L2.CX P w) P w K mg base ["script", "pen", "lap", "sign", "level", "weight", "due", "told", "other", "fault", "found", "bad", "at", "wrong", "values", "odd"] "law" (defScope s_law) (He.ga K "law") (.ref (He.codeOf K ("law", none))) A outer s H E) A1 outer1 s1 H1 E1 L.scope f1 c1) (fun cl dd _ J => E1 cl dd J) L.body m := by
  intro k m cl L h1 h2
  rw [T.lam] at h2
  match k with
  | 0 =>
    cases h1
    cases h2
    exact ⟨⟨LamX.lamS_by ls_0, rfl, fun _ _ _ _ _ => rfl⟩, rfl, fun A1 outer1 s1 H1 E1 f1 c1 z hr hg => lamb_0 T (k := 5) (by decide) ⟨hr.hd, hr.dp, hr.un⟩ hg⟩
  | 1 =>
    cases h1
    cases h2
    exact ⟨⟨LamX.lamS_by ls_1, rfl, fun _ _ _ _ _ => rfl⟩, rfl, fun A1 outer1 s1 H1 E1 f1 c1 z hr hg => lamb_1 T (k := 5) (by decide) ⟨hr.hd, hr.dp, hr.un⟩ hg⟩
  | 2 =>
    cases h1
    cases h2
    exact ⟨⟨LamX.lamS_by ls_2, rfl, fun _ _ _ _ _ => rfl⟩, rfl, fun A1 outer1 s1 H1 E1 f1 c1 z hr hg => lamb_2 T (k := 5) (by decide) ⟨hr.hd, hr.dp, hr.un⟩ hg⟩
  | 3 =>
    cases h1
    cases h2
    exact ⟨⟨LamX.lamS_by ls_3, rfl, fun _ _ _ _ _ => rfl⟩, rfl, fun A1 outer1 s1 H1 E1 f1 c1 z hr hg => lamb_3 T (k := 5) (by decide) ⟨hr.hd, hr.dp, hr.un⟩ hg⟩
  | 4 =>
    cases h1
    cases h2
    exact ⟨⟨LamX.lamS_by ls_4, rfl, fun _ _ _ _ _ => rfl⟩, rfl, fun A1 outer1 s1 H1 E1 f1 c1 z hr hg => lamb_4 T (k := 5) (by decide) ⟨hr.hd, hr.dp, hr.un⟩ hg⟩
  | k + 5 => nomatch h1
theorem body_law (T : Tx P w K mg base) {k : Nat} (hk : 7 ≤ k) {A : Around} {outer : List PySem.Env} {s : Shared} {H : Hp} {E : XK} (hr : Room k (A.deeper (envOfC "law" (defScope s_law) s.heap.objs.size (He.ga K "law") (.ref (He.codeOf K ("law", none)))))) (hgd : A.guards = some []) : MSs (cxOf (L2.CX P w) P w K mg base ["script", "pen", "lap", "sign", "level", "weight", "due", "told", "other", "fault", "found", "bad", "at", "wrong", "values", "odd"] "law" (defScope s_law) (He.ga K "law") (.ref (He.codeOf K ("law", none))) A outer s H E) (fun cls d _ H => E cls d H) (defBody s_law) (b_law (envOfC "law" (defScope s_law) s.heap.objs.size (He.ga K "law") (.ref (He.codeOf K ("law", none)))).cells) := by
  have hr := hr.mono hk
  have nd := sc_law.nd
  have tk : Takes (cxOf (L2.CX P w) P w K mg base ["script", "pen", "lap", "sign", "level", "weight", "due", "told", "other", "fault", "found", "bad", "at", "wrong", "values", "odd"] "law" (defScope s_law) (He.ga K "law") (.ref (He.codeOf K ("law", none))) A outer s H E) (fun cls d _ H => E cls d H) := takes_of rfl rfl rfl rfl
  have lp : PassesOwn (model P w) (A.deeper (envOfC "law" (defScope s_law) s.heap.objs.size (He.ga K "law") (.ref (He.codeOf K ("law", none))))) (envOfC "law" (defScope s_law) s.heap.objs.size (He.ga K "law") (.ref (He.codeOf K ("law", none)))) (cxOf (L2.CX P w) P w K mg base ["script", "pen", "lap", "sign", "level", "weight", "due", "told", "other", "fault", "found", "bad", "at", "wrong", "values", "odd"] "law" (defScope s_law) (He.ga K "law") (.ref (He.codeOf K ("law", none))) A outer s H E).xe := passes_of (X := (cxOf (L2.CX P w) P w K mg base ["script", "pen", "lap", "sign", "level", "weight", "due", "told", "other", "fault", "found", "bad", "at", "wrong", "values", "odd"] "law" (defScope s_law) (He.ga K "law") (.ref (He.codeOf K ("law", none))) A outer s H E)) rfl
  exact (mss_cons (ms_set nd rfl (by first | exact Or.inl rfl | exact Or.inr rfl) (me_fnP (ok__law_pen T) 0 hr tk (ma_cons (mo_of (me_var 0)) ma_nil))) (mss_cons (ms_for lp rfl (mi_range1 rfl T.n_range (ma_cons (mo_of me_int) ma_nil)) (mg_name nd rfl (by first | exact Or.inl rfl | exact Or.inr rfl)) (mss_cons (ms_set nd rfl (by first | exact Or.inl rfl | exact Or.inr rfl) (me_fnQ (ok__law_pick T) 0 hr tk (ma_cons (mo_var 1) (ma_cons (mo_of (me_lst (ma_cons (mo_of me_int) (ma_cons (mo_of (me_un un_neg s_neg (mo_of me_int))) (ma_cons (mo_of me_int) (ma_cons (mo_of (me_un un_neg s_neg (mo_of me_int))) (ma_cons (mo_of me_int) (ma_cons (mo_of (me_un un_neg s_neg (mo_of me_int))) (ma_cons (mo_of me_int) (ma_cons (mo_of (me_un un_neg s_neg (mo_of me_int))) (ma_cons (mo_of me_int) (ma_cons (mo_of (me_un un_neg s_neg (mo_of me_int))) (ma_cons (mo_of me_int) (ma_cons (mo_of (me_un un_neg s_neg (mo_of me_int))) (ma_cons (mo_of me_int) (ma_cons (mo_of me_int) (ma_cons (mo_of me_int) (ma_cons (mo_of (me_un un_neg s_neg (mo_of me_int))) ma_nil)))))))))))))))))) ma_nil)))) (mss_cons (ms_set nd rfl (by first | exact Or.inl rfl | exact Or.inr rfl) (me_op op_mulAll s_mul (mo_of (me_fnQ (ok__law_pick T) 0 hr tk (ma_cons (mo_var 1) (ma_cons (mo_of (me_lst (ma_cons (mo_of me_int) (ma_cons (mo_of me_int) (ma_cons (mo_of me_int) (ma_cons (mo_of me_int) (ma_cons (mo_of me_int) (ma_cons (mo_of me_int) (ma_cons (mo_of me_int) (ma_cons (mo_of me_int) (ma_cons (mo_of me_int) (ma_cons (mo_of me_int) (ma_cons (mo_of me_int) (ma_cons (mo_of me_int) ma_nil)))))))))))))) ma_nil)))) (mo_of (me_op op_addAll s_add (mo_of me_int) (mo_of (me_fnQ (ok__law_draw T) 0 hr tk (ma_cons (mo_var 1) (ma_cons (mo_of me_int) ma_nil)))))))) (mss_cons (ms_set nd rfl (by first | exact Or.inl rfl | exact Or.inr rfl) (me_if (mt_cmp op_gt s_gt (mo_of (me_fnQ (ok__law_draw T) 0 hr tk (ma_cons (mo_var 1) (ma_cons (mo_of me_int) ma_nil)))) (mo_of me_int) (nomark _)) (me_op op_addAll s_add (mo_of me_int) (mo_of (me_fnQ (ok__law_draw T) 0 hr tk (ma_cons (mo_var 1) (ma_cons (mo_of me_int) ma_nil))))) (me_fnQ (ok__law_pick T) 0 hr tk (ma_cons (mo_var 1) (ma_cons (mo_of (me_lst (ma_cons (mo_of me_int) (ma_cons (mo_of me_int) (ma_cons (mo_of me_int) (ma_cons (mo_of me_int) (ma_cons (mo_of (me_un un_neg s_neg (mo_of me_int))) ma_nil))))))) ma_nil))))) (mss_cons (ms_if (mt_w (mw_and (mt_cmp (op_eqD (u64 hr)) s_eq (mo_of (me_fnQ (ok__law_draw T) 0 hr tk (ma_cons (mo_var 1) (ma_cons (mo_of me_int) ma_nil)))) (mo_of me_int) (nomark _)) (mw_and1 (mt_cmp (op_neD (u64 hr)) s_ne (mo_var 3) (mo_of me_int) (nomark _))))) (mss_cons (ms_set nd rfl (by first | exact Or.inl rfl | exact Or.inr rfl) (me_op op_mulAll s_mul (mo_of (me_fnP (ok__law_conductor T) 0 hr tk (ma_cons (mo_of (me_var 3)) ma_nil))) (mo_of (me_op op_addAll s_add (mo_of me_int) (mo_of (me_fnQ (ok__law_draw T) 0 hr tk (ma_cons (mo_var 1) (ma_cons (mo_of me_int) ma_nil)))))))) mss_nil) mss_nil) (mss_cons (ms_set nd rfl (by first | exact Or.inl rfl | exact Or.inr rfl) (me_fnP (ok__law_due T) 0 hr tk (ma_cons (mo_of (me_var 4)) (ma_cons (mo_of (me_var 5)) (ma_cons (mo_of (me_var 3)) ma_nil))))) (mss_cons (ms_set nd rfl (by first | exact Or.inl rfl | exact Or.inr rfl) (me_caught T.d__law_complaint sc__law_complaint T.g__law_complaint (fun _ _ _ _ _ _ us hl => match us, hl with | [_], _ => rfl) rfl (Or.inl rfl) (by decide) (by decide) (fun cdv s H => hds__law_complaint T hgd hr cdv s H) (hf__law_complaint T) (lmok_law T) (hr.mono (by decide)) hgd (mo_of (me_lam (L := lam_4) 4 (by rw [T.lam]; rfl) T.tb_law rfl T.tm_law T.tu_law rfl rfl (LamX.lamS_by ls_4))))) (mss_cons (ms_if (mt_cmp op_notN s_notN (mo_var 6) (mo_of me_non) (nomark _)) (mss_cons (ms_if (mt_neO T.cls (op_neD (u64 hr)) s_ne (eq_all T) hr (mo_var 7) (mo_of (me_tup (ma_cons (mo_of me_str) (ma_cons (mo_of (me_var 6)) ma_nil))))) (mss_cons (ms_ret me_bl) mss_nil) mss_nil) (mss_cons ms_continue mss_nil)) mss_nil) (mss_cons (ms_if (mt_w (mw_or (mt_cmp (op_neD (u64 hr)) s_ne (mo_of (me_ix (mo_var 7) (mo_of me_int))) (mo_of me_str) (nomark _)) (mw_or (mt_neO T.cls (op_neD (u64 hr)) s_ne (eq_all T) hr (mo_of (me_tup (ma_cons (mo_of (me_fld T.cls (mo_of (me_ix (mo_var 7) (mo_of me_int))))) (ma_cons (mo_of (me_fld T.cls (mo_of (me_ix (mo_var 7) (mo_of me_int))))) (ma_cons (mo_of (me_fld T.cls (mo_of (me_ix (mo_var 7) (mo_of me_int))))) ma_nil))))) (mo_of (me_tup (ma_cons (mo_of (me_var 4)) (ma_cons (mo_of (me_var 5)) (ma_cons (mo_of (me_var 3)) ma_nil)))))) (mw_or1 (mt_neO T.cls (op_neD (u64 hr)) s_ne (eq_all T) hr (mo_of (me_ix (mo_var 7) (mo_of me_int))) (mo_of (me_make T.cls (ok_Room_m___init__ T) T.g_Room 0 hr tk (ma_cons (mo_of (me_var 4)) (ma_cons (mo_of (me_var 5)) (ma_cons (mo_of (me_var 3)) ma_nil)))))))))) (mss_cons (ms_ret me_bl) mss_nil) mss_nil) (mss_cons (ms_set nd rfl (by first | exact Or.inl rfl | exact Or.inr rfl) (me_op op_addAll s_add (mo_of (me_op op_mulAll s_mul (mo_var 4) (mo_of (me_op op_addAll s_add (mo_of me_int) (mo_of (me_fnQ (ok__law_draw T) 0 hr tk (ma_cons (mo_var 1) (ma_cons (mo_of me_int) ma_nil)))))))) (mo_of (me_fnQ (ok__law_pick T) 0 hr tk (ma_cons (mo_var 1) (ma_cons (mo_of (me_lst (ma_cons (mo_of me_int) (ma_cons (mo_of me_int) (ma_cons (mo_of me_int) (ma_cons (mo_of me_int) (ma_cons (mo_of (me_un un_neg s_neg (mo_of me_int))) ma_nil))))))) ma_nil)))))) (mss_cons (ms_set nd rfl (by first | exact Or.inl rfl | exact Or.inr rfl) (me_if (mt_w (mw_or (mt_cmp op_lt s_lt (mo_var 8) (mo_of me_int) (nomark _)) (mw_or1 (mt_cmp (op_neD (u64 hr)) s_ne (mo_of (me_op op_mod s_mod (mo_var 8) (mo_var 4))) (mo_of me_int) (nomark _))))) (me_tup (ma_cons (mo_of me_str) (ma_cons (mo_of me_str) (ma_cons (mo_of (me_repr hgd hr T.n_repr (ma_cons (mo_var 8) ma_nil))) ma_nil)))) (me_if (mt_cmp op_gt s_gt (mo_var 8) (mo_of me_int) (nomark _)) (me_tup (ma_cons (mo_of me_str) (ma_cons (mo_of me_str) ma_nil))) me_non))) (mss_cons (ms_set nd rfl (by first | exact Or.inl rfl | exact Or.inr rfl) (me_caught T.d__law_complaint sc__law_complaint T.g__law_complaint (fun _ _ _ _ _ _ us hl => match us, hl with | [_], _ => rfl) rfl (Or.inl rfl) (by decide) (by decide) (fun cdv s H => hds__law_complaint T hgd hr cdv s H) (hf__law_complaint T) (lmok_law T) (hr.mono (by decide)) hgd (mo_of (me_lam (L := lam_3) 3 (by rw [T.lam]; rfl) T.tb_law rfl T.tm_law T.tu_law rfl rfl (LamX.lamS_by ls_3))))) (mss_cons (ms_if (mt_w (mw_or (mt_w (mw_and (mt_cmp op_notN s_notN (mo_var 9) (mo_of me_non) (nomark _)) (mw_and1 (mt_neO T.cls (op_neD (u64 hr)) s_ne (eq_all T) hr (mo_var 10) (mo_var 9))))) (mw_or1 (mt_w (mw_and (mt_cmp op_isN s_isN (mo_var 9) (mo_of me_non) (nomark _)) (mw_and1 (mt_w (mw_or (mt_cmp (op_neD (u64 hr)) s_ne (mo_of (me_ix (mo_var 10) (mo_of me_int))) (mo_of me_str) (nomark _)) (mw_or1 (mt_neO T.cls (op_neD (u64 hr)) s_ne (eq_all T) hr (mo_of (me_ix (mo_var 10) (mo_of me_int))) (mo_of (me_make T.cls (ok_Room_m___init__ T) T.g_Room 0 hr tk (ma_cons (mo_of (me_var 8)) (ma_cons (mo_of (me_var 5)) (ma_cons (mo_of (me_var 3)) ma_nil))))))))))))))) (mss_cons (ms_ret me_bl) mss_nil) mss_nil) (mss_cons (ms_if (mt_w (mw_or (mt_w (mw_and (mt_neO T.cls (op_neD (u64 hr)) s_ne (eq_all T) hr (mo_var 8) (mo_var 4)) (mw_and (mt_cmp op_isN s_isN (mo_var 9) (mo_of me_non) (nomark _)) (mw_and1 (mt_eqO T.cls (op_eqD (u64 hr)) s_eq (eq_all T) hr (mo_of (me_ix (mo_var 10) (mo_of me_int))) (mo_of (me_ix (mo_var 7) (mo_of me_int)))))))) (mw_or1 (mt_eqO T.cls (op_eqD (u64 hr)) s_eq (eq_all T) hr (mo_of (me_ix (mo_var 7) (mo_of me_int))) (mo_of (me_tup (ma_cons (mo_of (me_var 4)) (ma_cons (mo_of (me_var 5)) (ma_cons (mo_of (me_var 3)) ma_nil))))))))) (mss_cons (ms_ret me_bl) mss_nil) mss_nil) (mss_cons (ms_set nd rfl (by first | exact Or.inl rfl | exact Or.inr rfl) (me_fnQ (ok__law_pick T) 0 hr tk (ma_cons (mo_var 1) (ma_cons (mo_of (me_lst (ma_cons (mo_of me_non) (ma_cons (mo_of me_bl) (ma_cons (mo_of me_str) (ma_cons (mo_of (me_tup (ma_cons (mo_of me_int) ma_nil))) (ma_cons (mo_of me_int) (ma_cons (mo_of (me_un un_neg s_neg (mo_var 4))) ma_nil)))))))) ma_nil)))) (mss_cons (ms_if (mt_neO T.cls (op_neD (u64 hr)) s_ne (eq_all T) hr (mo_of (me_caught T.d__law_complaint sc__law_complaint T.g__law_complaint (fun _ _ _ _ _ _ us hl => match us, hl with | [_], _ => rfl) rfl (Or.inl rfl) (by decide) (by decide) (fun cdv s H => hds__law_complaint T hgd hr cdv s H) (hf__law_complaint T) (lmok_law T) (hr.mono (by decide)) hgd (mo_of (me_lam (L := lam_2) 2 (by rw [T.lam]; rfl) T.tb_law rfl T.tm_law T.tu_law rfl rfl (LamX.lamS_by ls_2))))) (mo_of (me_tup (ma_cons (mo_of me_str) (ma_cons (mo_of me_str) (ma_cons (mo_of (me_repr hgd hr T.n_repr (ma_cons (mo_var 11) ma_nil))) ma_nil)))))) (mss_cons (ms_ret me_bl) mss_nil) mss_nil) mss_nil)))))))))))))))) (mss_cons (ms_for lp rfl (mi_range1 rfl T.n_range (ma_cons (mo_of me_int) ma_nil)) (mg_name nd rfl (by first | exact Or.inl rfl | exact Or.inr rfl)) (mss_cons (ms_set nd rfl (by first | exact Or.inl rfl | exact Or.inr rfl) (me_fnQ (ok__law_pick T) 0 hr tk (ma_cons (mo_var 1) (ma_cons (mo_of (me_lst (ma_cons (mo_of me_non) (ma_cons (mo_of me_bl) (ma_cons (mo_of me_str) (ma_cons (mo_of (me_tup (ma_cons (mo_of me_int) ma_nil))) ma_nil)))))) ma_nil)))) (mss_cons (ms_set nd rfl (by first | exact Or.inl rfl | exact Or.inr rfl) (me_lst (ma_cons (mo_of me_int) (ma_cons (mo_of me_int) (ma_cons (mo_of me_int) ma_nil))))) (mss_cons (ms_setIx (ps_asg (me_var 13) (pg_sub (pv 14) (me_var 12) set_list))) (mss_cons (ms_if (mt_neO T.cls (op_neD (u64 hr)) s_ne (eq_all T) hr (mo_of (me_caught T.d__law_complaint sc__law_complaint T.g__law_complaint (fun _ _ _ _ _ _ us hl => match us, hl with | [_], _ => rfl) rfl (Or.inl rfl) (by decide) (by decide) (fun cdv s H => hds__law_complaint T hgd hr cdv s H) (hf__law_complaint T) (lmok_law T) (hr.mono (by decide)) hgd (mo_of (me_lam (L := lam_1) 1 (by rw [T.lam]; rfl) T.tb_law rfl T.tm_law T.tu_law rfl rfl (LamX.lamS_by ls_1))))) (mo_of (me_tup (ma_cons (mo_of me_str) (ma_cons (mo_of (me_ix (mo_of (me_tup (ma_cons (mo_of me_str) (ma_cons (mo_of me_str) (ma_cons (mo_of me_str) ma_nil))))) (mo_var 12))) ma_nil))))) (mss_cons (ms_ret me_bl) mss_nil) mss_nil) mss_nil))))) (mss_cons (ms_set nd rfl (by first | exact Or.inl rfl | exact Or.inr rfl) (me_fnQ (ok__law_pick T) 0 hr tk (ma_cons (mo_var 1) (ma_cons (mo_of (me_lst (ma_cons (mo_of me_non) (ma_cons (mo_of (me_tup (ma_cons (mo_of me_int) (ma_cons (mo_of me_int) (ma_cons (mo_of me_int) ma_nil))))) (ma_cons (mo_of me_int) ma_nil))))) ma_nil)))) (mss_cons (ms_ret (me_eqO T.cls (op_eqD (u64 hr)) s_eq (eq_all T) hr (mo_of (me_caught T.d__law_complaint sc__law_complaint T.g__law_complaint (fun _ _ _ _ _ _ us hl => match us, hl with | [_], _ => rfl) rfl (Or.inl rfl) (by decide) (by decide) (fun cdv s H => hds__law_complaint T hgd hr cdv s H) (hf__law_complaint T) (lmok_law T) (hr.mono (by decide)) hgd (mo_of (me_lam (L := lam_0) 0 (by rw [T.lam]; rfl) T.tb_law rfl T.tm_law T.tu_law rfl rfl (LamX.lamS_by ls_0))))) (mo_of (me_tup (ma_cons (mo_of me_str) (ma_cons (mo_of (me_repr hgd hr T.n_repr (ma_cons (mo_var 15) ma_nil))) ma_nil)))))) mss_nil)))))
theorem ok_law (T : Tx P w K mg base) {fd : FuncData} (F : FunD K "law" "law" (defArgs s_law) (defBody s_law) (defScope s_law) (df_law.map scV) [] (He.ga K "law") fd) : FnG P w K mg base (L2.CX P w) 8 (He.ga K "law") fd ["script"] (spMC K m_law) :=
  def_okC (n := 1) 15 F sc_law rfl rfl fun A outer s H E hr hg => body_law T (by decide) hr hg
end
/-! ### the head -/
def h__law_pen : He.DefD := ⟨("_law_pen", none), "_law_pen", "_law_pen", defArgs s__law_pen, defBody s__law_pen, defScope s__law_pen, [], []⟩
def h__law_draw : He.DefD := ⟨("_law_draw", none), "_law_draw", "_law_draw", defArgs s__law_draw, defBody s__law_draw, defScope s__law_draw, [], []⟩
def h__law_pick : He.DefD := ⟨("_law_pick", none), "_law_pick", "_law_pick", defArgs s__law_pick, defBody s__law_pick, defScope s__law_pick, [], []⟩
def h__law_isqrt : He.DefD := ⟨("_law_isqrt", none), "_law_isqrt", "_law_isqrt", defArgs s__law_isqrt, defBody s__law_isqrt, defScope s__law_isqrt, [], []⟩
def h__law_square_out : He.DefD := ⟨("_law_square_out", none), "_law_square_out", "_law_square_out", defArgs s__law_square_out, defBody s__law_square_out, defScope s__law_square_out, [], []⟩
def h__law_conductor : He.DefD := ⟨("_law_conductor", none), "_law_conductor", "_law_conductor", defArgs s__law_conductor, defBody s__law_conductor, defScope s__law_conductor, [], []⟩
def h__law_due : He.DefD := ⟨("_law_due", none), "_law_due", "_law_due", defArgs s__law_due, defBody s__law_due, defScope s__law_due, [], []⟩
def h__law_complaint : He.DefD := ⟨("_law_complaint", none), "_law_complaint", "_law_complaint", defArgs s__law_complaint, defBody s__law_complaint, defScope s__law_complaint, [], []⟩
def h_is_integer : He.DefD := ⟨("is_integer", none), "is_integer", "is_integer", defArgs s_is_integer, defBody s_is_integer, defScope s_is_integer, [], []⟩
def h_is_level : He.DefD := ⟨("is_level", none), "is_level", "is_level", defArgs s_is_level, defBody s_is_level, defScope s_is_level, [], []⟩
def h_square_free_of : He.DefD := ⟨("square_free_of", none), "square_free_of", "square_free_of", defArgs s_square_free_of, defBody s_square_free_of, defScope s_square_free_of, [], []⟩
def h_conductor_of : He.DefD := ⟨("conductor_of", none), "conductor_of", "conductor_of", defArgs s_conductor_of, defBody s_conductor_of, defScope s_conductor_of, [], []⟩
def h_is_sign : He.DefD := ⟨("is_sign", none), "is_sign", "is_sign", defArgs s_is_sign, defBody s_is_sign, defScope s_is_sign, [], []⟩
def h_Room_m___init__ : He.DefD := ⟨("Room", some "__init__"), "__init__", "Room.__init__", defArgs s_Room_m___init__, defBody s_Room_m___init__, defScope s_Room_m___init__, [], []⟩
def h_Room_m___eq__ : He.DefD := ⟨("Room", some "__eq__"), "__eq__", "Room.__eq__", defArgs s_Room_m___eq__, defBody s_Room_m___eq__, defScope s_Room_m___eq__, [], []⟩
def h_need_room : He.DefD := ⟨("need_room", none), "need_room", "need_room", defArgs s_need_room, defBody s_need_room, defScope s_need_room, [], []⟩
def h_need_multiple : He.DefD := ⟨("need_multiple", none), "need_multiple", "need_multiple", defArgs s_need_multiple, defBody s_need_multiple, defScope s_need_multiple, [], []⟩
def h_room_at : He.DefD := ⟨("room_at", none), "room_at", "room_at", defArgs s_room_at, defBody s_room_at, defScope s_room_at, [], []⟩
def h_law : He.DefD := ⟨("law", none), "law", "law", defArgs s_law, defBody s_law, defScope s_law, [], []⟩
def fn : List He.DefD := [h__law_pen, h__law_draw, h__law_pick, h__law_isqrt, h__law_square_out, h__law_conductor, h__law_due, h__law_complaint, h_is_integer, h_is_level, h_square_free_of, h_conductor_of, h_is_sign, h_Room_m___init__, h_Room_m___eq__, h_need_room, h_need_multiple, h_room_at, h_law]
def fa : List He.Fa := [.free "abs", .free "bool", .free "int", .free "isinstance", .free "len", .free "list", .free "range", .free "repr", .int "MOST_LEVEL" 10000, .int "MOST_WEIGHT" 60, .glo "_law_pen", .glo "_law_draw", .glo "_law_pick", .glo "_law_isqrt", .glo "_law_square_out", .glo "_law_conductor", .glo "_law_due", .glo "_law_complaint", .glo "is_integer", .glo "is_level", .glo "square_free_of", .glo "conductor_of", .glo "is_sign", .glo "need_room", .glo "need_multiple", .glo "room_at", .glo "law", .glo "Room", .glo "BadRoom", .glo "BadItem", .glo "BadNumber", .exm "BadRoom" "BadRoom" true, .exm "BadItem" "BadRoom" false, .exm "BadNumber" "BadRoom" false, .exm "BadRoom" "BadItem" false, .exm "BadItem" "BadItem" true, .exm "BadNumber" "BadItem" false, .exm "BadRoom" "BadNumber" false, .exm "BadItem" "BadNumber" false, .exm "BadNumber" "BadNumber" true, .free "super"]
def hx_BadRoom : XcD := ⟨"BadRoom", ["why"], defArgs sx_BadRoom, defBody sx_BadRoom, defScope sx_BadRoom⟩
def hx_BadItem : XcD := ⟨"BadItem", ["value"], defArgs sx_BadItem, defBody sx_BadItem, defScope sx_BadItem⟩
def hx_BadNumber : XcD := ⟨"BadNumber", ["what", "value"], defArgs sx_BadNumber, defBody sx_BadNumber, defScope sx_BadNumber⟩
def hxs : List XcD := [hx_BadRoom, hx_BadItem, hx_BadNumber]
def tf : List He.Defn := [("law", none)]
def ls0 : List PySem.Str := ["RowError", "BadNumber", "BadItem", "BadRoom", "is_integer", "square_free_of", "conductor_of", "MOST_LEVEL", "MOST_WEIGHT", "Room", "is_level", "is_sign", "need_room", "need_multiple", "room_at", "_law_pen", "_law_draw", "_law_pick", "_law_isqrt", "_law_square_out", "_law_conductor", "_law_complaint", "_law_due"]
abbrev PR : Program := PySem.Challenge.pw_productrows_k05_whole_rooms
abbrev R : PySem.W.OpenRow := PySem.W.OpenLaw.row PySem.Challenge.rw_productrows_k05_whole_rooms
abbrev hk : PySem.W.Hook := hookM PR 5 fa fn hxs CL tf
def ob (s : PySem.W.SharedT) : AlM := obsM PR 5 fa fn hxs CL tf (HandSHeadRun.getT s)
theorem ob_eq (s : PySem.W.SharedT) : ob s = hk.obs s.abs := obsM_eq (HandSHeadRun.getT_eq s)
theorem run (w : World) : HandSHeadRun.RunEq R (PySem.W.view R.prog [28]) hk ob 2140 (ls0) w := by
  intro os
  kernel_rfl
theorem ext_BadRoom : ExT (defArgs sx_BadRoom) (defBody sx_BadRoom) (defScope sx_BadRoom) "self" ["why"] where
  shape := ⟨_, _, _, _, _, _, _, _, rfl, (.cons rfl .nil), (fun h => nomatch h), (.cons .nil), fun env he => by
    obtain ⟨⟩ := env
    dsimp only at he
    subst he
    exact ⟨rfl, rfl, rfl, fun e rest h => by cases h; exact ⟨rfl, rfl⟩⟩⟩
  bind := fun _ _ _ _ _ _ _ _ us hl => match us, hl with | [_, _], _ => rfl
  head := ⟨_, rfl, rfl⟩
  kind := rfl
  co := rfl
  gen := rfl
  cells := by decide +kernel
  loc := by decide +kernel
  sup := rfl
  cls := rfl
  nd := by decide +kernel
  len := by decide
theorem ext_BadItem : ExT (defArgs sx_BadItem) (defBody sx_BadItem) (defScope sx_BadItem) "self" ["value"] where
  shape := ⟨_, _, _, _, _, _, _, _, rfl, (.cons rfl .nil), (fun h => nomatch h), (.cons .nil), fun env he => by
    obtain ⟨⟩ := env
    dsimp only at he
    subst he
    exact ⟨rfl, rfl, rfl, fun e rest h => by cases h; exact ⟨rfl, rfl⟩⟩⟩
  bind := fun _ _ _ _ _ _ _ _ us hl => match us, hl with | [_, _], _ => rfl
  head := ⟨_, rfl, rfl⟩
  kind := rfl
  co := rfl
  gen := rfl
  cells := by decide +kernel
  loc := by decide +kernel
  sup := rfl
  cls := rfl
  nd := by decide +kernel
  len := by decide
theorem ext_BadNumber : ExT (defArgs sx_BadNumber) (defBody sx_BadNumber) (defScope sx_BadNumber) "self" ["what", "value"] where
  shape := ⟨_, _, _, _, _, _, _, _, rfl, (.cons rfl (.cons rfl .nil)), (fun h => nomatch h), (.cons (.cons .nil)), fun env he => by
    obtain ⟨⟩ := env
    dsimp only at he
    subst he
    exact ⟨rfl, rfl, rfl, fun e rest h => by cases h; exact ⟨rfl, rfl⟩⟩⟩
  bind := fun _ _ _ _ _ _ _ _ us hl => match us, hl with | [_, _, _], _ => rfl
  head := ⟨_, rfl, rfl⟩
  kind := rfl
  co := rfl
  gen := rfl
  cells := by decide +kernel
  loc := by decide +kernel
  sup := rfl
  cls := rfl
  nd := by decide +kernel
  len := by decide
def tbOf (K : PySem.W.Frag) : TabT := ⟨[((He.cT K ("law", none)).2, (("law" ++ ".<locals>.") ++ "<lambda>" : Str))], lamsL⟩
theorem tb_in (K : PySem.W.Frag) : ∀ p ∈ (tbOf K).T, ∃ q ∈ tf.map (He.cT K), q.2 = p.1 := fun p hp => by
  rcases List.mem_cons.mp hp with e | e
  · exact ⟨_, List.mem_map_of_mem List.mem_cons_self, by rw [e]⟩
  · cases e
theorem facts {w : World} {K : PySem.W.Frag} {h base : Heap} {mg : Str → Option Value} (X : K.In h) (G : h.Ns mainGlobals mg) (c : SaysM PR fa fn hxs CL tf h K) (hb : ∀ p ∈ tf, LamX.TabB base mg (He.cT K p).1 (He.cT K p).2) : @Tx (tbOf K) PR w K mg base :=
  letI : TabT := tbOf K
  { lam := rfl
    cls := clsB_ok c.cl
    tb_law := hb ("law", none) (by simp [tf])
    tm_law := List.mem_cons_self
    tu_law := fun p hp _ => by
      rcases List.mem_cons.mp hp with e | e
      · rw [e]
      · cases e
    n_abs := He.free_ok X G (c.d.fact 0 (f := .free "abs") rfl)
    n_bool := He.free_ok X G (c.d.fact 1 (f := .free "bool") rfl)
    n_int := He.free_ok X G (c.d.fact 2 (f := .free "int") rfl)
    n_isinstance := He.free_ok X G (c.d.fact 3 (f := .free "isinstance") rfl)
    n_len := He.free_ok X G (c.d.fact 4 (f := .free "len") rfl)
    n_list := He.free_ok X G (c.d.fact 5 (f := .free "list") rfl)
    n_range := He.free_ok X G (c.d.fact 6 (f := .free "range") rfl)
    n_repr := He.free_ok X G (c.d.fact 7 (f := .free "repr") rfl)
    i_MOST_LEVEL := He.int_ok X G (c.d.fact 8 (f := .int "MOST_LEVEL" 10000) rfl)
    i_MOST_WEIGHT := He.int_ok X G (c.d.fact 9 (f := .int "MOST_WEIGHT" 60) rfl)
    g__law_pen := He.glo_ok X G (c.d.fact 10 (f := .glo "_law_pen") rfl)
    g__law_draw := He.glo_ok X G (c.d.fact 11 (f := .glo "_law_draw") rfl)
    g__law_pick := He.glo_ok X G (c.d.fact 12 (f := .glo "_law_pick") rfl)
    g__law_isqrt := He.glo_ok X G (c.d.fact 13 (f := .glo "_law_isqrt") rfl)
    g__law_square_out := He.glo_ok X G (c.d.fact 14 (f := .glo "_law_square_out") rfl)
    g__law_conductor := He.glo_ok X G (c.d.fact 15 (f := .glo "_law_conductor") rfl)
    g__law_due := He.glo_ok X G (c.d.fact 16 (f := .glo "_law_due") rfl)
    g__law_complaint := He.glo_ok X G (c.d.fact 17 (f := .glo "_law_complaint") rfl)
    g_is_integer := He.glo_ok X G (c.d.fact 18 (f := .glo "is_integer") rfl)
    g_is_level := He.glo_ok X G (c.d.fact 19 (f := .glo "is_level") rfl)
    g_square_free_of := He.glo_ok X G (c.d.fact 20 (f := .glo "square_free_of") rfl)
    g_conductor_of := He.glo_ok X G (c.d.fact 21 (f := .glo "conductor_of") rfl)
    g_is_sign := He.glo_ok X G (c.d.fact 22 (f := .glo "is_sign") rfl)
    g_need_room := He.glo_ok X G (c.d.fact 23 (f := .glo "need_room") rfl)
    g_need_multiple := He.glo_ok X G (c.d.fact 24 (f := .glo "need_multiple") rfl)
    g_room_at := He.glo_ok X G (c.d.fact 25 (f := .glo "room_at") rfl)
    g_law := He.glo_ok X G (c.d.fact 26 (f := .glo "law") rfl)
    g_Room := He.glo_ok X G (c.d.fact 27 (f := .glo "Room") rfl)
    g_BadRoom := He.glo_ok X G (c.d.fact 28 (f := .glo "BadRoom") rfl)
    g_BadItem := He.glo_ok X G (c.d.fact 29 (f := .glo "BadItem") rfl)
    g_BadNumber := He.glo_ok X G (c.d.fact 30 (f := .glo "BadNumber") rfl)
    e_BadRoom_BadRoom := He.exm_ok (c.d.fact 31 (f := .exm "BadRoom" "BadRoom" true) rfl)
    e_BadItem_BadRoom := He.exm_ok (c.d.fact 32 (f := .exm "BadItem" "BadRoom" false) rfl)
    e_BadNumber_BadRoom := He.exm_ok (c.d.fact 33 (f := .exm "BadNumber" "BadRoom" false) rfl)
    e_BadRoom_BadItem := He.exm_ok (c.d.fact 34 (f := .exm "BadRoom" "BadItem" false) rfl)
    e_BadItem_BadItem := He.exm_ok (c.d.fact 35 (f := .exm "BadItem" "BadItem" true) rfl)
    e_BadNumber_BadItem := He.exm_ok (c.d.fact 36 (f := .exm "BadNumber" "BadItem" false) rfl)
    e_BadRoom_BadNumber := He.exm_ok (c.d.fact 37 (f := .exm "BadRoom" "BadNumber" false) rfl)
    e_BadItem_BadNumber := He.exm_ok (c.d.fact 38 (f := .exm "BadItem" "BadNumber" false) rfl)
    e_BadNumber_BadNumber := He.exm_ok (c.d.fact 39 (f := .exm "BadNumber" "BadNumber" true) rfl)
    x_BadRoom := c.xc 0 ext_BadRoom (He.glo_ok X G (c.d.fact 28 (f := .glo "BadRoom") rfl)) (He.free_ok X G (c.d.fact 40 (f := .free "super") rfl)) (by decide +kernel)
    x_BadItem := c.xc 1 ext_BadItem (He.glo_ok X G (c.d.fact 29 (f := .glo "BadItem") rfl)) (He.free_ok X G (c.d.fact 40 (f := .free "super") rfl)) (by decide +kernel)
    x_BadNumber := c.xc 2 ext_BadNumber (He.glo_ok X G (c.d.fact 30 (f := .glo "BadNumber") rfl)) (He.free_ok X G (c.d.fact 40 (f := .free "super") rfl)) (by decide +kernel)
    d__law_pen := c.d.def_ 0 (d := h__law_pen) rfl
    d__law_draw := c.d.def_ 1 (d := h__law_draw) rfl
    d__law_pick := c.d.def_ 2 (d := h__law_pick) rfl
    d__law_isqrt := c.d.def_ 3 (d := h__law_isqrt) rfl
    d__law_square_out := c.d.def_ 4 (d := h__law_square_out) rfl
    d__law_conductor := c.d.def_ 5 (d := h__law_conductor) rfl
    d__law_due := c.d.def_ 6 (d := h__law_due) rfl
    d__law_complaint := c.d.def_ 7 (d := h__law_complaint) rfl
    d_is_integer := c.d.def_ 8 (d := h_is_integer) rfl
    d_is_level := c.d.def_ 9 (d := h_is_level) rfl
    d_square_free_of := c.d.def_ 10 (d := h_square_free_of) rfl
    d_conductor_of := c.d.def_ 11 (d := h_conductor_of) rfl
    d_is_sign := c.d.def_ 12 (d := h_is_sign) rfl
    d_Room_m___init__ := c.d.def_ 13 (d := h_Room_m___init__) rfl
    d_Room_m___eq__ := c.d.def_ 14 (d := h_Room_m___eq__) rfl
    d_need_room := c.d.def_ 15 (d := h_need_room) rfl
    d_need_multiple := c.d.def_ 16 (d := h_need_multiple) rfl
    d_room_at := c.d.def_ 17 (d := h_room_at) rfl
    d_law := c.d.def_ 18 (d := h_law) rfl }
end L2.MX.Lw
end
section
set_option Elab.async false
set_option linter.all false
set_option maxRecDepth 100000
namespace L2.MX.Lw
open PySem PySem.Spec PyProof.Rows
local instance tb1 : TabT := ⟨[], []⟩
theorem fdiv_nat {k d : Nat} (h : 0 < d) (h2 : d ≤ 1000000) : dFdiv (.int k) (.int d) = some (.pl (.int ((k / d : Nat) : Int))) := by
  show (if 0 < (d : Int) ∧ (d : Int) < 1073741824 then pI ((k : Int) / (d : Int)) else none) = _
  rw [if_pos ⟨by omega, by omega⟩]
  rfl
theorem fdiv_int {z : Int} {d : Nat} (h : 0 < d) (h2 : d ≤ 1000000) : dFdiv (.int z) (.int d) = some (.pl (.int (z / (d : Int)))) := by
  show (if 0 < (d : Int) ∧ (d : Int) < 1073741824 then pI (z / (d : Int)) else none) = _
  rw [if_pos ⟨by omega, by omega⟩]
  rfl
theorem eqB_int {i j : Int} : dEqB (.int i) (.int j) = some (decide (i = j)) := by
  show (if (SeqAt.shaped (.int i) && SeqAt.shaped (.int j)) = true then some (PyData.eqv (.int i) (.int j)) else none) = _
  have e : PyData.eqv (.int i) (.int j) = decide (i = j) := by
    simp only [PyData.eqv]
    by_cases h : i = j <;> simp [h]
  rw [if_pos (by first | rfl | simp [SeqAt.shaped]), e]
theorem eq_int {i j : Int} : dEq (.int i) (.int j) = some (.pl (.bl (decide (i = j)))) := by
  unfold dEq
  rw [eqB_int]
  rfl
theorem ne_int {i j : Int} : dNe (.int i) (.int j) = some (.pl (.bl (!decide (i = j)))) := by
  unfold dNe
  rw [eqB_int]
  rfl
theorem mul_int {i j : Int} (h : smallI i = true) : dMul (.int i) (.int j) = some (.pl (.int (i * j))) := by
  show (if (smallI i || smallI j) = true then pI (i * j) else none) = _
  rw [h]
  rfl
theorem lt_nat {a b : Nat} : decide ((a : Int) < (b : Int)) = decide (a < b) := by
  by_cases h : a < b
  · simp [h]
  · have : ¬ ((a : Int) < (b : Int)) := by omega
    simp [h]
/-! ### the pen -/
def kC : Key := .inr "cells"
def kA : Key := .inr "at"
def kD : Key := .inr "digits"
def kN : Key := .inr "count"
def kF : Key := .inr "fold"
def penD (cs : List D) (a d n f : Int) : D := .dic [kC, kA, kD, kN, kF] [.lst cs, .int a, .int d, .int n, .int f]
section
variable {cs : List D} {a d n f x : Int}
theorem gC : dDGet (penD cs a d n f) (.str "cells") = some (.pl (.lst cs)) := by kernel_rfl
theorem gA : dDGet (penD cs a d n f) (.str "at") = some (.pl (.int a)) := by kernel_rfl
theorem gD : dDGet (penD cs a d n f) (.str "digits") = some (.pl (.int d)) := by kernel_rfl
theorem gN : dDGet (penD cs a d n f) (.str "count") = some (.pl (.int n)) := by kernel_rfl
theorem gF : dDGet (penD cs a d n f) (.str "fold") = some (.pl (.int f)) := by kernel_rfl
theorem uA {ρ : Env} : putKey (.io (penD cs a d n f) :: ρ) 0 (.str "at") (.int x) = some (.io (penD cs x d n f) :: ρ) := by kernel_rfl
theorem uD {ρ : Env} : putKey (.io (penD cs a d n f) :: ρ) 0 (.str "digits") (.int x) = some (.io (penD cs a x n f) :: ρ) := by kernel_rfl
theorem uN {ρ : Env} : putKey (.io (penD cs a d n f) :: ρ) 0 (.str "count") (.int x) = some (.io (penD cs a d x f) :: ρ) := by kernel_rfl
theorem uF {ρ : Env} : putKey (.io (penD cs a d n f) :: ρ) 0 (.str "fold") (.int x) = some (.io (penD cs a d n x) :: ρ) := by kernel_rfl
end
theorem sDPut1_of {i : Nat} {mk me : M} {ρ ρ1 ρ2 ρ3 : Env} {r k : RV} (hm : me ρ = .ok r ρ1) (hd : isDic (ownedAt ρ1 i) = true) (hk : mk ρ1 = .ok k ρ2) (hp : putKey ρ2 i k.d r.d = some ρ3) : sDPut1 i mk me ρ = .nx ρ3 := by
  unfold sDPut1 ofE
  simp only [hm, hd, if_true, hk, hp]
abbrev gt (x : Str) : M := mOp dDGet (oVar 0) (oVal (mK (.str x)))
theorem gt_of {P : D} {x : Str} {ρ : Env} {r : RV} (h : dDGet P (.str x) = some r) : gt x (.io P :: ρ) = .ok r (.io P :: ρ) := mOp_of rfl rfl rfl rfl h
/-- a pen that has drawn at most c times -/
structure Pen (c : Nat) (P : D) : Prop where
  ex : ∃ (cs : List Int) (a n : Nat) (d f : Int), P = penD (cs.map .int) a d n f ∧ a ≤ cs.length ∧ n ≤ c ∧ 0 ≤ d ∧ 0 ≤ f ∧ f < 3000000000
theorem fdiv_any {z : Int} {m : Nat} (h : 0 < m) (h2 : m ≤ 1000000) : dFdiv (.int z) (.int m) = some (.pl (.int (z / (m : Int)))) := fdiv_int h h2
theorem mod_any {z w : Int} (h : 0 < w) : dMod (.int z) (.int w) = some (.pl (.int (z % w))) := by
  show (if 0 < w then pI (z % w) else none) = _
  rw [if_pos h]
  rfl
theorem pow_any {z : Int} {k : Nat} (h : smallI z = true) (hk : k ≤ 1000) : dPow (.int z) (.int k) = some (.pl (.int (z ^ k))) := by
  show (if (0 ≤ (k : Int) ∧ (k : Int) ≤ 1000000) ∧ smallI z = true then pI (z ^ (k : Int).toNat) else none) = _
  rw [if_pos ⟨⟨by omega, by omega⟩, h⟩, Int.toNat_natCast]
  rfl
theorem int_id {z : Int} {m : M} {ρ ρ1 : Env} (h : m ρ = .ok (.pl (.int z)) ρ1) : mCall dInt (mAc (oVal m) mA0) ρ = .ok (.pl (.int z)) ρ1 := mCall_of (os := [.val (.int z)]) (mAc_of (oVal_of h) rfl) rfl rfl
abbrev dS1 : MS := sDPut1 0 (mK (.str "count")) (mOp dAdd (oVal (gt "count")) (oVal (mK (.int 1))))
abbrev dB1 : MS := sSeq (sSet 2 (mOp dIx (oVal (gt "cells")) (oVal (gt "at")))) (sSeq (sDPut1 0 (mK (.str "at")) (mOp dAdd (oVal (gt "at")) (oVal (mK (.int 1))))) (sSeq (sIf (mtB (mOp dGe (oVar 2) (oVal (mOp dPow (oVal (mK (.int 10))) (oVal (mK (.int 18))))))) (sSeq (sDPut1 0 (mK (.str "digits")) (mOp dSub (oVar 2) (oVal (mOp dPow (oVal (mK (.int 10))) (oVal (mK (.int 18))))))) sNil) (sSeq (sDPut1 0 (mK (.str "fold")) (mOp dMod (oVal (mCall dInt (mAc (oVal (mOp dAdd (oVal (mOp dMul (oVal (gt "fold")) (oVal (mK (.int 69069))))) (oVar 2))) mA0))) (oVal (mK (.int 2147483543))))) sNil)) sNil))
abbrev dT1 : MT := mtAnd (mtB (mOp dEq (oVal (gt "digits")) (oVal (mK (.int 0))))) (mtB (mOp dLt (oVal (gt "at")) (oVal (mCall dLen (mAc (oVal (gt "cells")) mA0)))))
theorem pow18 {ρ : Env} : mOp dPow (oVal (mK (.int 10))) (oVal (mK (.int 18))) ρ = .ok (.pl (.int (10 ^ 18))) ρ := mOp_of rfl rfl rfl rfl (pow_any (z := 10) (k := 18) (by decide) (by decide))
/-- a cell is read -/
theorem d_cell {c : Nat} {P : D} {m : Nat} {c2 c3 c4 : Cell} (h : Pen c P) (h2 : pc c2) : ∃ P' c2', Pen c P' ∧ pc c2' ∧ sIf dT1 dB1 sNil [.io P, .pl (.int m), c2, c3, c4] = .nx [.io P', .pl (.int m), c2', c3, c4] := by
  obtain ⟨cs, a, n, d, f, rfl, ha, hn, hd, hf, hf2⟩ := h.ex
  have t1 := mtB_of (mOp_of (f := dEq) (b := oVal (mK (.int 0))) (oVal_of (gt_of (ρ := [.pl (.int m), c2, c3, c4]) (gD (cs := cs.map D.int) (a := (a : Int)) (d := d) (n := (n : Int)) (f := f)))) rfl rfl rfl eq_int)
  have t2 : mtB (mOp dLt (oVal (gt "at")) (oVal (mCall dLen (mAc (oVal (gt "cells")) mA0)))) [.io (penD (cs.map D.int) a d n f), .pl (.int m), c2, c3, c4] = .ok (decide (a < cs.length)) [.io (penD (cs.map D.int) a d n f), .pl (.int m), c2, c3, c4] := by
    have e1 := mCall_of (f := dLen) (args := mAc (oVal (gt "cells")) mA0) (os := [.val (.lst (cs.map D.int))]) (mAc_of (oVal_of (gt_of (ρ := [.pl (.int m), c2, c3, c4]) (gC (cs := cs.map D.int) (a := (a : Int)) (d := d) (n := (n : Int)) (f := f)))) rfl) rfl (r := .pl (.int (cs.length : Nat))) (by show some (RV.pl (.int ((cs.map D.int).length : Nat))) = _; rw [List.length_map])
    rw [← lt_nat]
    exact mtB_of (mOp_of (f := dLt) (oVal_of (gt_of gA)) (oVal_of e1) rfl rfl rfl)
  by_cases hb : d = 0 ∧ a < cs.length
  · rw [decide_eq_true hb.1] at t1
    rw [decide_eq_true hb.2] at t2
    have hz : ∃ z, cs[a]? = some z := ⟨_, List.getElem?_eq_getElem hb.2⟩
    obtain ⟨z, hz⟩ := hz
    have ix : dIx (.lst (cs.map D.int)) (.int (a : Int)) = some (.pl (.int z)) := by
      show (atI (cs.map D.int) ((a : Nat) : Int)).map RV.pl = _
      unfold atI
      rw [List.length_map, ixN_nat hb.2]
      show ((cs.map D.int)[a]?).map RV.pl = _
      rw [List.getElem?_map, hz]
      rfl
    have s1 : sSet 2 (mOp dIx (oVal (gt "cells")) (oVal (gt "at"))) [.io (penD (cs.map D.int) a d n f), .pl (.int m), c2, c3, c4] = .nx [.io (penD (cs.map D.int) a d n f), .pl (.int m), .pl (.int z), c3, c4] :=
      sSet_of (mOp_of (oVal_of (gt_of gC)) (oVal_of (gt_of gA)) rfl rfl ix) (by simp only [sSeq, sNil, sSet, sAsg, sPar, sRet, sRetN, sExpr, sIf, sApp, sSetIx, sAug, sAugIx, sBrk, sCont, putAll, ofR, mVar, mOp, mUn, mIf, mAnd, mOr, mNot, mtB, mtAnd, mtOr, mtNot, mtYes, mCall, mTup, mLst, mAc, mA0, mRc, mR0, mK, oVar, oVal, bindM, ofE, ofT, ofI, ap1, ap2, apL, getAll, vals, Opd.get, Cell.get, ownedAt, isLst, putIx, appTo, setOwn, Cell.setD, RV.d, cellOf, putC, io_un, io_pl, io_ow, gNm, gTp, gAll, pI, pB, List.getElem?_cons_zero, List.getElem?_cons_succ, List.set_cons_succ, List.set_cons_zero, Option.bind_some, Option.map_some, Bool.true_or, Bool.or_true, if_true, reduceIte, Bool.false_eq_true, if_false, List.length_cons, List.length_nil, decide_true, decide_false, decide_eq_true_eq, Nat.reduceAdd, Nat.reduceLeDiff, Nat.zero_add, pc_io h2])
    have s2 : sDPut1 0 (mK (.str "at")) (mOp dAdd (oVal (gt "at")) (oVal (mK (.int 1)))) [.io (penD (cs.map D.int) a d n f), .pl (.int m), .pl (.int z), c3, c4] = .nx [.io (penD (cs.map D.int) ((a + 1 : Nat) : Int) d n f), .pl (.int m), .pl (.int z), c3, c4] :=
      sDPut1_of (r := .pl (.int ((a + 1 : Nat) : Int))) (k := .pl (.str "at")) (mOp_of (oVal_of (gt_of gA)) rfl rfl rfl rfl) rfl rfl uA
    have t3 : mtB (mOp dGe (oVar 2) (oVal (mOp dPow (oVal (mK (.int 10))) (oVal (mK (.int 18)))))) [.io (penD (cs.map D.int) ((a + 1 : Nat) : Int) d n f), .pl (.int m), .pl (.int z), c3, c4] = .ok (decide ((10 ^ 18 : Int) ≤ z)) [.io (penD (cs.map D.int) ((a + 1 : Nat) : Int) d n f), .pl (.int m), .pl (.int z), c3, c4] :=
      mtB_of (mOp_of (f := dGe) (oVar_pl rfl) (oVal_of pow18) (get_slot rfl) rfl rfl)
    by_cases hc : (10 ^ 18 : Int) ≤ z
    · rw [decide_eq_true hc] at t3
      refine ⟨penD (cs.map D.int) ((a + 1 : Nat) : Int) (z - 10 ^ 18) n f, .pl (.int z), ⟨cs, a + 1, n, z - 10 ^ 18, f, rfl, hb.2, hn, by omega, hf, hf2⟩, pc_pl _, sIf_of (mtAnd_t t1 t2) (fun _ => ?_) fun z => by cases z⟩
      refine sSeq_nx s1 (sSeq_nx s2 (sSeq_nx (sIf_of t3 (fun _ => ?_) fun z => by cases z) rfl))
      exact sSeq_nx (sDPut1_of (r := .pl (.int (z - 10 ^ 18))) (k := .pl (.str "digits")) (mOp_of (oVar_pl rfl) (oVal_of pow18) (get_slot rfl) rfl rfl) rfl rfl uD) rfl
    · rw [decide_eq_false hc] at t3
      refine ⟨penD (cs.map D.int) ((a + 1 : Nat) : Int) d n ((f * 69069 + z) % 2147483543), .pl (.int z), ⟨cs, a + 1, n, d, (f * 69069 + z) % 2147483543, rfl, hb.2, hn, hd, Int.emod_nonneg _ (by decide), ?_⟩, pc_pl _, sIf_of (mtAnd_t t1 t2) (fun _ => ?_) fun z => by cases z⟩
      · have := Int.emod_lt_of_pos (f * 69069 + z) (show (0 : Int) < 2147483543 by decide)
        omega
      · refine sSeq_nx s1 (sSeq_nx s2 (sSeq_nx (sIf_of t3 (fun z => by cases z) fun _ => ?_) rfl))
        have e1 := mOp_of (f := dMul) (b := oVal (mK (.int 69069))) (oVal_of (gt_of (ρ := [.pl (.int m), .pl (.int z), c3, c4]) (gF (cs := cs.map D.int) (a := ((a + 1 : Nat) : Int)) (d := d) (n := (n : Int)) (f := f)))) rfl rfl rfl (mul_int (smallI_iff.mpr (by omega)))
        have e2 := mOp_of (f := dAdd) (b := oVar 2) (oVal_of e1) (oVar_pl rfl) rfl (get_slot rfl) rfl
        exact sSeq_nx (sDPut1_of (r := .pl (.int ((f * 69069 + z) % 2147483543))) (k := .pl (.str "fold")) (mOp_of (oVal_of (int_id e2)) rfl rfl rfl (mod_any (by decide))) rfl rfl uF) rfl
  · refine ⟨_, c2, h, h2, sIf_of (k := false) (ρ1 := [.io (penD (cs.map D.int) a d n f), .pl (.int m), c2, c3, c4]) ?_ (fun z => by cases z) fun _ => rfl⟩
    by_cases h1 : d = 0
    · rw [decide_eq_true h1] at t1
      rw [decide_eq_false (fun z => hb ⟨h1, z⟩)] at t2
      exact mtAnd_t t1 t2
    · rw [decide_eq_false h1] at t1
      exact mtAnd_f t1
theorem f_draw {c m : Nat} {P : D} (h : Pen c P) (hc : c ≤ 1000000) (hm : 1 ≤ m) (hm2 : m ≤ 1000000) : ∃ r P', m__law_draw [.io P, .pl (.int m)] = .rt (.pl (.int (r : Nat))) [.io P', .un] ∧ r < m ∧ Pen (c + 1) P' := by
  obtain ⟨cs, a, n, d, f, rfl, ha, hn, hd, hf, hf2⟩ := h.ex
  have s1 : dS1 [.io (penD (cs.map D.int) a d n f), .pl (.int m), .un, .un, .un] = .nx [.io (penD (cs.map D.int) a d ((n + 1 : Nat) : Int) f), .pl (.int m), .un, .un, .un] :=
    sDPut1_of (r := .pl (.int ((n + 1 : Nat) : Int))) (k := .pl (.str "count")) (mOp_of (oVal_of (gt_of gN)) rfl rfl rfl rfl) rfl rfl uN
  have hp1 : Pen (c + 1) (penD (cs.map D.int) a d ((n + 1 : Nat) : Int) f) := ⟨cs, a, n + 1, d, f, rfl, ha, by omega, hd, hf, hf2⟩
  obtain ⟨P2, c2, hp2, h2, s2⟩ := d_cell (m := m) (c3 := .un) (c4 := .un) hp1 pc_un
  obtain ⟨cs, a, n, d, f, rfl, ha, hn, hd, hf, hf2⟩ := hp2.ex
  have t3 := mtB_of (mOp_of (f := dGt) (b := oVal (mK (.int 0))) (oVal_of (gt_of (ρ := [.pl (.int m), c2, .un, .un]) (gD (cs := cs.map D.int) (a := (a : Int)) (d := d) (n := (n : Int)) (f := f)))) rfl rfl rfl (show dGt (.int d) (.int 0) = some (.pl (.bl (decide (0 < d)))) from rfl))
  by_cases hb : 0 < d
  · rw [decide_eq_true hb] at t3
    have hr0 : 0 ≤ d % (m : Int) := Int.emod_nonneg _ (by omega)
    have hr1 : d % (m : Int) < m := Int.emod_lt_of_pos _ (by omega)
    have e3 : (((d % (m : Int)).toNat : Nat) : Int) = d % (m : Int) := Int.toNat_of_nonneg hr0
    refine ⟨(d % (m : Int)).toNat, penD (cs.map D.int) a (d / (m : Int)) n f, ?_, by omega, ⟨cs, a, n, d / (m : Int), f, rfl, ha, hn, Int.ediv_nonneg hd (by omega), hf, hf2⟩⟩
    refine (mDef_rt (ρ := [.io (penD (cs.map D.int) a (d / (m : Int)) n f), .pl (.int m), c2, .pl (.int (d % (m : Int))), .un]) (r := .pl (.int (((d % (m : Int)).toNat : Nat) : Int))) ?_).trans rfl
    refine sSeq_nx s1 (sSeq_nx s2 (sSeq_rt (sIf_of t3 (fun _ => ?_) fun z => by cases z)))
    have x1 := mOp_of (f := dMod) (b := oVar 1) (oVal_of (int_id (gt_of (ρ := [.pl (.int m), c2, .un, .un]) (gD (cs := cs.map D.int) (a := (a : Int)) (d := d) (n := (n : Int)) (f := f))))) (oVar_pl rfl) rfl (get_slot rfl) (mod_any (show (0 : Int) < (m : Int) by omega))
    refine sSeq_nx (ρ1 := [.io (penD (cs.map D.int) a d n f), .pl (.int m), c2, .pl (.int (d % (m : Int))), .un]) (sSet_of x1 rfl) ?_
    have x2 := mOp_of (f := dFdiv) (b := oVar 1) (oVal_of (gt_of (ρ := [.pl (.int m), c2, .pl (.int (d % (m : Int))), .un]) (gD (cs := cs.map D.int) (a := (a : Int)) (d := d) (n := (n : Int)) (f := f)))) (oVar_pl rfl) rfl (get_slot rfl) (fdiv_any (z := d) (m := m) (by omega) hm2)
    refine sSeq_nx (sDPut1_of (k := .pl (.str "digits")) x2 rfl rfl uD) ?_
    rw [e3]
    exact sSeq_rt (sRet_of rfl)
  · rw [decide_eq_false hb] at t3
    have hw : 0 ≤ ((f + n * 8167 + 47) ^ 17 % 2305843009213693951) / 128 % (m : Int) := Int.emod_nonneg _ (by omega)
    have hw1 : ((f + n * 8167 + 47) ^ 17 % 2305843009213693951) / 128 % (m : Int) < m := Int.emod_lt_of_pos _ (by omega)
    have e3 := Int.toNat_of_nonneg hw
    refine ⟨(((f + n * 8167 + 47) ^ 17 % 2305843009213693951) / 128 % (m : Int)).toNat, penD (cs.map D.int) a d n f, ?_, by omega, ⟨cs, a, n, d, f, rfl, ha, hn, hd, hf, hf2⟩⟩
    rw [e3]
    refine (mDef_rt (ρ := [.io (penD (cs.map D.int) a d n f), .pl (.int m), c2, .un, .pl (.int (f + n * 8167 + 47))]) ?_).trans rfl
    refine sSeq_nx s1 (sSeq_nx s2 (sSeq_nx (sIf_of t3 (fun z => by cases z) fun _ => rfl) ?_))
    have y1 := mOp_of (f := dMul) (b := oVal (mK (.int 8167))) (oVal_of (gt_of (ρ := [.pl (.int m), c2, .un, .un]) (gN (cs := cs.map D.int) (a := (a : Int)) (d := d) (n := (n : Int)) (f := f)))) rfl rfl rfl (mul_int (smallI_iff.mpr (by omega)))
    have y2 := mOp_of (f := dAdd) (oVal_of (gt_of gF)) (oVal_of y1) rfl rfl rfl
    have y3 := mOp_of (f := dAdd) (b := oVal (mK (.int 47))) (oVal_of y2) rfl rfl rfl rfl
    refine sSeq_nx (ρ1 := [.io (penD (cs.map D.int) a d n f), .pl (.int m), c2, .un, .pl (.int (f + n * 8167 + 47))]) (sSet_of y3 rfl) ?_
    refine sSeq_rt (sRet_of ?_)
    have z1 := mOp_of (f := dPow) (a := oVar 4) (b := oVal (mK (.int 17))) (ρ := [Cell.io (penD (cs.map D.int) a d n f), .pl (.int m), c2, .un, .pl (.int (f + n * 8167 + 47))]) (oVar_pl rfl) rfl (get_slot rfl) rfl (pow_any (k := 17) (smallI_iff.mpr (by omega)) (by decide))
    have z2 := mOp_of (f := dMod) (b := oVal (mK (.int 2305843009213693951))) (oVal_of z1) rfl rfl rfl (mod_any (by decide))
    have z3 := mOp_of (f := dFdiv) (b := oVal (mK (.int 128))) (oVal_of (int_id z2)) rfl rfl rfl (fdiv_any (m := 128) (by decide) (by decide))
    exact mOp_of (f := dMod) (oVal_of z3) (oVar_pl rfl) rfl (get_slot rfl) (mod_any (by omega))

theorem f_pen (ns : List Int) : ∃ P, Pen 0 P ∧ m__law_pen [.pl (.flst (ns.map D.int))] = .rt (.fr P) [.un] := by
  obtain ⟨ρ', e1, f, c2, h0, h1, p2, rfl⟩ := loopF_inv (g := gNm 2) (b := sSeq (sSet 1 (mOp dMod (oVal (mCall dInt (mAc (oVal (mOp dAdd (oVal (mOp dMul (oVar 1) (oVal (mK (.int 67))))) (oVar 2))) mA0))) (oVal (mK (.int 1000000033))))) sNil)
    (fun j ρ => ∃ f c2, 0 ≤ f ∧ f < 1000000033 ∧ pc c2 ∧ ρ = [.pl (.flst (ns.map D.int)), .pl (.int f), c2]) (ns.map D.int) 0
    [.pl (.flst (ns.map D.int)), .pl (.int 0), .un] ⟨0, .un, by decide, by decide, pc_un, rfl⟩ (by
      rintro j d ρ hd ⟨f, c2, h0, h1, p2, rfl⟩
      rw [List.getElem?_map] at hd
      obtain ⟨z, _, rfl⟩ := Option.map_eq_some_iff.mp hd
      have e1 := mOp_of (f := dMul) (a := oVar 1) (b := oVal (mK (.int 67))) (ρ := [Cell.pl (.flst (ns.map D.int)), .pl (.int f), .pl (.int z)]) (oVar_pl rfl) rfl (get_slot rfl) rfl (mul_int (smallI_iff.mpr (by omega)))
      have e2 := mOp_of (f := dAdd) (b := oVar 2) (oVal_of e1) (oVar_pl rfl) rfl (get_slot rfl) rfl
      have e3 := mOp_of (f := dMod) (b := oVal (mK (.int 1000000033))) (oVal_of (int_id e2)) rfl rfl rfl (mod_any (by decide))
      exact ⟨_, ⟨[.pl (.flst (ns.map D.int)), .pl (.int f), .pl (.int z)], by simp only [sSeq, sNil, sSet, sAsg, sPar, sRet, sRetN, sExpr, sIf, sApp, sSetIx, sAug, sAugIx, sBrk, sCont, putAll, ofR, mVar, mOp, mUn, mIf, mAnd, mOr, mNot, mtB, mtAnd, mtOr, mtNot, mtYes, mCall, mTup, mLst, mAc, mA0, mRc, mR0, mK, oVar, oVal, bindM, ofE, ofT, ofI, ap1, ap2, apL, getAll, vals, Opd.get, Cell.get, ownedAt, isLst, putIx, appTo, setOwn, Cell.setD, RV.d, cellOf, putC, io_un, io_pl, io_ow, gNm, gTp, gAll, pI, pB, List.getElem?_cons_zero, List.getElem?_cons_succ, List.set_cons_succ, List.set_cons_zero, Option.bind_some, Option.map_some, Bool.true_or, Bool.or_true, if_true, reduceIte, Bool.false_eq_true, if_false, List.length_cons, List.length_nil, decide_true, decide_false, decide_eq_true_eq, Nat.reduceAdd, Nat.reduceLeDiff, Nat.zero_add, pc_io p2], .inl (sSeq_nx (sSet_of e3 rfl) rfl)⟩, (f * 67 + z) % 1000000033, .pl (.int z), Int.emod_nonneg _ (by decide), Int.emod_lt_of_pos _ (by decide), pc_pl _, rfl⟩)
  refine ⟨penD (ns.map D.int) 0 0 0 f, ⟨ns, 0, 0, 0, f, rfl, Nat.zero_le _, Nat.le_refl _, Int.le_refl _, h0, by omega⟩, ?_⟩
  refine (mDef_rt (ρ := [.pl (.flst (ns.map D.int)), .pl (.int f), c2]) ?_).trans rfl
  refine sSeq_nx (ρ1 := [.pl (.flst (ns.map D.int)), .pl (.int 0), .un]) rfl ?_
  refine sSeq_nx (sFor_of (iSeq_of (r := .pl (.flst (ns.map D.int))) rfl rfl) e1) ?_
  exact sSeq_rt (sRet_of (by kernel_rfl))
theorem f_pick {c : Nat} {P : D} {xs : List D} (h : Pen c P) (hc : c ≤ 1000000) (h1 : 1 ≤ xs.length) (h2 : xs.length ≤ 1000000) : ∃ x P', x ∈ xs ∧ Pen (c + 1) P' ∧ m__law_pick [.io P, .pl (.lst xs)] = .rt (.pl x) [.io P', .un] := by
  obtain ⟨r, P', e, hr, hp⟩ := f_draw h hc h1 h2
  refine ⟨xs[r], P', List.getElem_mem hr, hp, ?_⟩
  refine (mDef_rt (ρ := [.io P', .pl (.lst xs)]) (sSeq_rt (sRet_of ?_))).trans rfl
  have a1 := mCall_of (f := dLen) (args := mAc (oVar 1) mA0) (ρ := [Cell.io P, .pl (.lst xs)]) (os := [.slot 1]) (ds := [.lst xs]) rfl rfl (r := .pl (.int (xs.length : Nat))) rfl
  have a2 : mCallQ (df__law_draw.drop 0) m__law_draw (mAc (oVar 0) (mAc (oVal (mCall dLen (mAc (oVar 1) mA0))) mA0)) [Cell.io P, .pl (.lst xs)] = .ok (.pl (.int (r : Nat))) [.io P', .pl (.lst xs)] :=
    mCallQ_of (i := 0) (os := [.val (.int (xs.length : Nat))]) (mAc_of rfl (mAc_of (oVal_of a1) rfl)) rfl rfl e
  refine mOp_of (f := dIx) (oVar_pl rfl) (oVal_of a2) (get_slot rfl) rfl ?_
  show (atI xs ((r : Nat) : Int)).map RV.pl = _
  unfold atI
  rw [ixN_nat hr]
  show (xs[r]?).map RV.pl = _
  rw [List.getElem?_eq_getElem hr]
  rfl
end L2.MX.Lw
end
section
set_option Elab.async false
set_option linter.all false
set_option maxRecDepth 100000
namespace L2.MX.Lw
open PySem PySem.Spec PyProof.Rows
local instance tb2 : TabT := ⟨[], []⟩
theorem f_is_integer (z : Int) : m_is_integer [.pl (.int z)] = .rt (.pl (.bl true)) [.un] := rfl
theorem chain_le {i : Nat} {a c z : Int} {ρ : Env} (h : ρ[i]? = some (.pl (.int z))) : mChain dLe dLe (oVal (mK (.int a))) (oVar i) (oVal (mK (.int c))) ρ = .ok (.pl (.bl (decide (a ≤ z) && decide (z ≤ c)))) ρ := by
  unfold mChain bindM
  have e1 : oVal (mK (.int a)) ρ = .ok (.val (.int a)) ρ := rfl
  have e2 := oVar_pl h
  have e3 : mtB (fun ρ => ap2 dLe ρ (.val (.int a)) (.slot i)) ρ = .ok (decide (a ≤ z)) ρ := mtB_of (by
    unfold ap2
    rw [get_slot h]
    rfl)
  simp only [e1, e2, e3]
  by_cases q : a ≤ z
  · have e4 : oVal (mK (.int c)) ρ = .ok (.val (.int c)) ρ := rfl
    simp only [q, decide_true, if_true, e4, ap2, get_slot h, Bool.true_and]
    rfl
  · simp only [q, decide_false, Bool.false_eq_true, if_false, Bool.false_and]
theorem mAnd_of {a b : M} {ρ ρ1 ρ2 : Env} {x y : Bool} (h : a ρ = .ok (.pl (.bl x)) ρ1) (hb : x = true → b ρ1 = .ok (.pl (.bl y)) ρ2) (hn : x = false → ρ2 = ρ1) : mAnd a b ρ = .ok (.pl (.bl (x && y))) ρ2 := by
  unfold mAnd bindM
  rw [mtB_of h]
  cases x with
  | true => simp only [if_true, Bool.true_and]; exact hb rfl
  | false => simp only [Bool.false_eq_true, if_false, Bool.false_and]; rw [hn rfl]
theorem mtOr_of {a b : MT} {ρ ρ1 ρ2 : Env} {x y : Bool} (h : a ρ = .ok x ρ1) (hb : x = false → b ρ1 = .ok y ρ2) (hn : x = true → ρ2 = ρ1) : mtOr a b ρ = .ok (x || y) ρ2 := by
  cases x with
  | true => rw [mtOr_t h, hn rfl]; rfl
  | false => rw [mtOr_f h (hb rfl)]; rfl
def lvB (l : Int) : Bool := decide (1 ≤ l) && decide (l ≤ 10000)
def wtB (w : Int) : Bool := decide (1 ≤ w) && decide (w ≤ 60)
theorem f_is_level (l : Int) : m_is_level [.pl (.int l)] = .rt (.pl (.bl (lvB l))) [.un] := by
  refine (mDef_rt (ρ := [.pl (.int l)]) (sSeq_rt (sRet_of ?_))).trans rfl
  exact (mAnd_of (x := true) (mCallP_of (os := [.val (.int l)]) rfl rfl (f_is_integer l)) (fun _ => chain_le rfl) (fun z => by cases z)).trans rfl
/-- the law's signs -/
def S16 : List Int := [1, -1, 2, -2, 3, -3, 5, -7, 6, -6, 4, -4, 12, 0, 21, -23]
def cond (s : Int) : Int := if s % 4 = 1 then (s.natAbs : Int) else 4 * (s.natAbs : Int)
def sqf (s : Int) : Bool := s != 0 && s != 4 && s != -4 && s != 12
def chkS (s : Int) : Bool := (match m_square_free_of [.pl (.int s)], m__law_square_out [.pl (.int s)] with
  | .rt (.pl (.int a)) [.un], .rt (.pl (.int b)) [.un] => sqf s == false && s == 0 || (a == s) == sqf s && (b == s) == sqf s
  | .bad, .rt (.pl (.int b)) [.un] => s == 0
  | _, _ => false) && (match m_conductor_of [.pl (.int s)], m__law_conductor [.pl (.int s)] with
  | .rt (.pl (.int a)) [.un], .rt (.pl (.int b)) [.un] => a == cond s && b == cond s
  | _, _ => false)
theorem S16_ok : S16.all chkS = true := by decide +kernel
end L2.MX.Lw
end
section
set_option Elab.async false
set_option linter.all false
set_option maxRecDepth 100000
namespace L2.MX.Lw
open PySem PySem.Spec PyProof.Rows
local instance tb3 : TabT := ⟨[], []⟩
theorem S_in {s : Int} (hs : s ∈ S16) : s = 1 ∨ s = -1 ∨ s = 2 ∨ s = -2 ∨ s = 3 ∨ s = -3 ∨ s = 5 ∨ s = -7 ∨ s = 6 ∨ s = -6 ∨ s = 4 ∨ s = -4 ∨ s = 12 ∨ s = 0 ∨ s = 21 ∨ s = -23 := by
  simpa [S16] using hs
theorem S_sf {s : Int} (hs : s ∈ S16) (h : sqf s = true) : m_square_free_of [.pl (.int s)] = .rt (.pl (.int s)) [.un] ∧ m__law_square_out [.pl (.int s)] = .rt (.pl (.int s)) [.un] := by
  rcases S_in hs with rfl | rfl | rfl | rfl | rfl | rfl | rfl | rfl | rfl | rfl | rfl | rfl | rfl | rfl | rfl | rfl
  all_goals first
    | exact absurd h (by decide)
    | exact ⟨by kernel_rfl, by kernel_rfl⟩
theorem S_no {s : Int} (hs : s ∈ S16) (h : sqf s = false) (h0 : s ≠ 0) : m_square_free_of [.pl (.int s)] = .rt (.pl (.int (if s = 12 then 3 else if s = 4 then 1 else -1))) [.un] ∧ m__law_square_out [.pl (.int s)] = .rt (.pl (.int (if s = 12 then 3 else if s = 4 then 1 else -1))) [.un] ∧ (if s = 12 then 3 else if s = 4 then 1 else -1) ≠ s := by
  rcases S_in hs with rfl | rfl | rfl | rfl | rfl | rfl | rfl | rfl | rfl | rfl | rfl | rfl | rfl | rfl | rfl | rfl
  all_goals first
    | exact absurd h (by decide)
    | (exact absurd rfl h0)
    | exact ⟨by kernel_rfl, by kernel_rfl, by decide⟩
theorem S_cd {s : Int} (hs : s ∈ S16) : m_conductor_of [.pl (.int s)] = .rt (.pl (.int (cond s))) [.un] ∧ m__law_conductor [.pl (.int s)] = .rt (.pl (.int (cond s))) [.un] := by
  rcases S_in hs with rfl | rfl | rfl | rfl | rfl | rfl | rfl | rfl | rfl | rfl | rfl | rfl | rfl | rfl | rfl | rfl
  all_goals exact ⟨by kernel_rfl, by kernel_rfl⟩
theorem S_ab {s : Int} (hs : s ∈ S16) : dAbs [.int s] = some (.pl (.int (s.natAbs : Int))) ∧ decide ((10000 : Int) < (s.natAbs : Int)) = false ∧ (s ≠ 0 → 0 < cond s) := by
  rcases S_in hs with rfl | rfl | rfl | rfl | rfl | rfl | rfl | rfl | rfl | rfl | rfl | rfl | rfl | rfl | rfl | rfl
  all_goals exact ⟨by kernel_rfl, by decide, by decide⟩
theorem eq_bl {a b : Bool} : dEq (.bl a) (.bl b) = some (.pl (.bl (a == b))) := by cases a <;> cases b <;> rfl
theorem ne_bl {a b : Bool} : dNe (.bl a) (.bl b) = some (.pl (.bl (!(a == b)))) := by cases a <;> cases b <;> rfl
def sgB (l w s : Int) : Bool := sqf s && ((decide (s < 0) == decide (w % 2 = 1)) && decide (l % cond s = 0))
section
variable {l w s : Int}
abbrev R3 (l w s : Int) : Env := [.pl (.int l), .pl (.int w), .pl (.int s)]
theorem t_zero : mtB (mOp dEq (oVar 2) (oVal (mK (.int 0)))) (R3 l w s) = .ok (decide (s = 0)) (R3 l w s) := mtB_of (mOp_of (o := .slot 2) (p := .val (.int 0)) rfl rfl rfl rfl eq_int)
theorem t_abs (hs : s ∈ S16) : mtB (mOp dGt (oVal (mCall dAbs (mAc (oVar 2) mA0))) (oVal (mK (.int 10000)))) (R3 l w s) = .ok false (R3 l w s) := by
  have e := mCall_of (f := dAbs) (args := mAc (oVar 2) mA0) (ρ := R3 l w s) (os := [.slot 2]) (ds := [.int s]) rfl rfl (S_ab hs).1
  have e2 := mtB_of (mOp_of (f := dGt) (b := oVal (mK (.int 10000))) (oVal_of e) rfl rfl rfl (show dGt (.int (s.natAbs : Int)) (.int 10000) = some (.pl (.bl (decide ((10000 : Int) < (s.natAbs : Int))))) from rfl))
  rw [(S_ab hs).2.1] at e2
  exact e2
theorem t_sqf (f : MF) (a : Int) (h : f [.pl (.int s)] = .rt (.pl (.int a)) [.un]) : mtB (mOp dNe (oVal (mCallP [] f (mAc (oVal (mVar 2)) mA0))) (oVar 2)) (R3 l w s) = .ok (!decide (a = s)) (R3 l w s) :=
  mtB_of (mOp_of (f := dNe) (oVal_of (mCallP_of (dfl := []) (os := [.val (.int s)]) (cs := [.pl (.int s)]) rfl rfl h)) (oVar_pl rfl) rfl (get_slot rfl) ne_int)
/-- the tests that bar a sign -/
theorem t_bar (hs : s ∈ S16) (f : MF) (hf : f = m_square_free_of ∨ f = m__law_square_out) : mtOr (mtB (mOp dEq (oVar 2) (oVal (mK (.int 0))))) (mtOr (mtB (mOp dGt (oVal (mCall dAbs (mAc (oVar 2) mA0))) (oVal (mK (.int 10000))))) (mtB (mOp dNe (oVal (mCallP [] f (mAc (oVal (mVar 2)) mA0))) (oVar 2)))) (R3 l w s) = .ok (!sqf s) (R3 l w s) := by
  by_cases h0 : s = 0
  · subst h0
    exact mtOr_t t_zero
  · have z := t_zero (l := l) (w := w) (s := s)
    rw [decide_eq_false h0] at z
    refine mtOr_f z (mtOr_f (t_abs hs) ?_)
    cases q : sqf s with
    | true =>
      have := t_sqf (l := l) (w := w) f s (by rcases hf with rfl | rfl; exact (S_sf hs q).1; exact (S_sf hs q).2)
      simpa using this
    | false =>
      obtain ⟨h1, h2, h3⟩ := S_no hs q h0
      have := t_sqf (l := l) (w := w) (s := s) f _ (by rcases hf with rfl | rfl; exact h1; exact h2)
      rw [decide_eq_false h3] at this
      exact this
theorem v_neg : mOp dLt (oVar 2) (oVal (mK (.int 0))) (R3 l w s) = .ok (.pl (.bl (decide (s < 0)))) (R3 l w s) := mOp_of (o := .slot 2) (p := .val (.int 0)) rfl rfl rfl rfl rfl
theorem v_odd : mOp dEq (oVal (mOp dMod (oVar 1) (oVal (mK (.int 2))))) (oVal (mK (.int 1))) (R3 l w s) = .ok (.pl (.bl (decide (w % 2 = 1)))) (R3 l w s) :=
  mOp_of (oVal_of (mOp_of (f := dMod) (a := oVar 1) (b := oVal (mK (.int 2))) (o := .slot 1) (p := .val (.int 2)) rfl rfl rfl rfl (mod_any (by decide)))) rfl rfl rfl eq_int
theorem v_mod (hs : s ∈ S16) (h0 : s ≠ 0) (f : MF) (hf : f = m_conductor_of ∨ f = m__law_conductor) : mOp dMod (oVar 0) (oVal (mCallP [] f (mAc (oVal (mVar 2)) mA0))) (R3 l w s) = .ok (.pl (.int (l % cond s))) (R3 l w s) :=
  mOp_of (f := dMod) (oVar_pl rfl) (oVal_of (mCallP_of (dfl := []) (os := [.val (.int s)]) (cs := [.pl (.int s)]) rfl rfl (by rcases hf with rfl | rfl; exact (S_cd hs).1; exact (S_cd hs).2))) (get_slot rfl) rfl (mod_any ((S_ab hs).2.2 h0))
theorem sqf_ne (h : sqf s = true) : s ≠ 0 := by
  intro z
  subst z
  revert h
  decide
theorem f_is_sign (hs : s ∈ S16) : m_is_sign (R3 l w s) = .rt (.pl (.bl (sgB l w s))) [.un, .un, .un] := by
  refine (mDef_rt (ρ := R3 l w s) ?_).trans rfl
  have h1 := mtOr_f (a := mtNot (mtB (mCallP [] m_is_integer (mAc (oVal (mVar 2)) mA0)))) (ρ := R3 l w s) (ρ1 := R3 l w s) (mtNot_of (c := true) (mtB_of (mCallP_of (os := [.val (.int s)]) rfl rfl (f_is_integer s)))) (t_bar (l := l) (w := w) hs m_square_free_of (.inl rfl))
  unfold sgB
  cases q : sqf s with
  | false =>
    rw [q] at h1
    exact sSeq_rt (sIf_of h1 (fun _ => sSeq_rt (sRet_of rfl)) fun z => by cases z)
  | true =>
    rw [q] at h1
    refine sSeq_nx (sIf_of h1 (fun z => by cases z) fun _ => rfl) (sSeq_rt (sRet_of ?_))
    rw [Bool.true_and]
    refine mAnd_of (x := (decide (s < 0) == decide (w % 2 = 1))) (mOp_of (oVal_of v_neg) (oVal_of v_odd) rfl rfl eq_bl) (fun _ => ?_) fun _ => rfl
    exact mOp_of (f := dEq) (oVal_of (v_mod hs (sqf_ne q) m_conductor_of (.inl rfl))) rfl rfl rfl eq_int
end
end L2.MX.Lw
end
section
set_option Elab.async false
set_option linter.all false
set_option maxRecDepth 100000
namespace L2.MX.Lw
open PySem PySem.Spec PyProof.Rows
local instance tb4 : TabT := ⟨[], []⟩
theorem sSeq_ex {a b : MS} {ρ ρ1 : Env} {x : Exc} (h : a ρ = .ex x ρ1) : sSeq a b ρ = .ex x ρ1 := by
  unfold sSeq
  rw [h]
theorem mDef_ex {n l : Nat} {b : MS} {args : Env} {x : Exc} {ρ : Env} (h : b (args ++ List.replicate l .un) = .ex x ρ) (hn : args.length = n := by rfl) : mDef n l b args = .ex x (outsOf n ρ) := by
  unfold mDef
  rw [if_pos hn, h]
  rfl
def dueF (l w s : Int) : Option Str := if lvB l = true then (if wtB w = true then (if sgB l w s = true then none else some "sign") else some "weight") else some "level"
def dueD : Option Str → D
  | none => .non
  | some x => .str x
def room (l w s : Int) : D := .ins "Room" ["level", "weight", "sign"] [.int l, .int w, .int s]
def room0 : D := .ins "Room" [] []
section
variable {l w s : Int}
theorem t_isi {i : Nat} {z : Int} {ρ : Env} {t : MT} {b : Bool} (h : ρ[i]? = some (.pl (.int z))) (ht : t ρ = .ok b ρ) : mtOr (mtNot (mtB (mIsi [.int] (oVar i)))) (mtOr (mtB (mIsi [.bool] (oVar i))) t) ρ = .ok b ρ := by
  have e1 : mIsi [.int] (oVar i) ρ = .ok (.pl (.bl true)) ρ := mUn_of (oVar_pl h) (get_slot h) rfl
  have e2 : mIsi [.bool] (oVar i) ρ = .ok (.pl (.bl false)) ρ := mUn_of (oVar_pl h) (get_slot h) rfl
  exact mtOr_f (mtNot_of (c := true) (mtB_of e1)) (mtOr_f (mtB_of e2) ht)
theorem f_due (hs : s ∈ S16) : m__law_due (R3 l w s) = .rt (.pl (dueD (dueF l w s))) [.un, .un, .un] := by
  refine (mDef_rt (ρ := R3 l w s) ?_).trans rfl
  have h1 := t_isi (i := 0) (ρ := R3 l w s) rfl (mtNot_of (mtB_of (chain_le (i := 0) (a := 1) (c := 10000) (ρ := R3 l w s) rfl)))
  have h2 := t_isi (i := 1) (ρ := R3 l w s) rfl (mtNot_of (mtB_of (chain_le (i := 1) (a := 1) (c := 60) (ρ := R3 l w s) rfl)))
  have h3 := t_isi (i := 2) (ρ := R3 l w s) rfl (t_bar (l := l) (w := w) hs m__law_square_out (.inr rfl))
  change _ = ER.ok (!lvB l) _ at h1
  change _ = ER.ok (!wtB w) _ at h2
  unfold dueF
  cases q1 : lvB l with
  | false =>
    rw [q1] at h1
    exact sSeq_rt (sIf_of h1 (fun _ => sSeq_rt (sRet_of rfl)) fun z => by cases z)
  | true =>
    rw [q1] at h1
    refine sSeq_nx (sIf_of h1 (fun z => by cases z) fun _ => rfl) ?_
    cases q2 : wtB w with
    | false =>
      rw [q2] at h2
      exact sSeq_rt (sIf_of h2 (fun _ => sSeq_rt (sRet_of rfl)) fun z => by cases z)
    | true =>
      rw [q2] at h2
      refine sSeq_nx (sIf_of h2 (fun z => by cases z) fun _ => rfl) ?_
      unfold sgB
      cases q3 : sqf s with
      | false =>
        rw [q3] at h3
        exact sSeq_rt (sIf_of h3 (fun _ => sSeq_rt (sRet_of rfl)) fun z => by cases z)
      | true =>
        rw [q3] at h3
        refine sSeq_nx (sIf_of h3 (fun z => by cases z) fun _ => rfl) (sSeq_rt (sRet_of ?_))
        have a1 := mtB_of (mOp_of (f := dNe) (oVal_of (v_neg (l := l) (w := w) (s := s))) (oVal_of v_odd) rfl rfl ne_bl)
        have a2 := mtB_of (mOp_of (f := dNe) (b := oVal (mK (.int 0))) (oVal_of (v_mod (l := l) (w := w) hs (sqf_ne q3) m__law_conductor (.inr rfl))) rfl rfl rfl ne_int)
        cases q4 : (decide (s < 0) == decide (w % 2 = 1)) with
        | false =>
          rw [q4] at a1
          exact mIf_t (mtOr_t a1) rfl
        | true =>
          rw [q4] at a1
          cases q5 : decide (l % cond s = 0) with
          | false =>
            rw [q5] at a2
            exact mIf_t (mtOr_f a1 a2) rfl
          | true =>
            rw [q5] at a2
            exact mIf_f (mtOr_f a1 a2) rfl
abbrev I4 (r : D) (l w s : Int) : Env := [.io r, .pl (.int l), .pl (.int w), .pl (.int s)]
theorem f_init (hs : s ∈ S16) : m_Room_m___init__ (I4 room0 l w s) = match dueF l w s with
    | none => .rt (.pl .non) [.io (room l w s), .un, .un, .un]
    | some x => .ex ⟨"BadRoom", ["why"], [.str x]⟩ [.io room0, .un, .un, .un] := by
  have h1 := mtNot_of (mtB_of (mCallP_of (dfl := []) (args := mAc (oVal (mVar 1)) mA0) (ρ := I4 room0 l w s) (os := [.val (.int l)]) rfl rfl (f_is_level l)))
  have h2 := mtOr_f (a := mtNot (mtB (mCallP [] m_is_integer (mAc (oVal (mVar 2)) mA0)))) (ρ := I4 room0 l w s) (ρ1 := I4 room0 l w s) (mtNot_of (c := true) (mtB_of (mCallP_of (os := [.val (.int w)]) rfl rfl (f_is_integer w)))) (mtNot_of (mtB_of (chain_le (i := 2) (a := 1) (c := 60) (ρ := I4 room0 l w s) rfl)))
  change _ = ER.ok (!wtB w) _ at h2
  have h3 := mtNot_of (mtB_of (mCallP_of (dfl := []) (args := mAc (oVal (mVar 1)) (mAc (oVal (mVar 2)) (mAc (oVal (mVar 3)) mA0))) (ρ := I4 room0 l w s) (os := [.val (.int l), .val (.int w), .val (.int s)]) rfl rfl (f_is_sign (l := l) (w := w) hs)))
  unfold dueF
  cases q1 : lvB l with
  | false =>
    rw [q1] at h1
    exact (mDef_ex (ρ := I4 room0 l w s) (sSeq_ex (sIf_of h1 (fun _ => rfl) fun z => by cases z))).trans rfl
  | true =>
    rw [q1] at h1
    cases q2 : wtB w with
    | false =>
      rw [q2] at h2
      exact (mDef_ex (ρ := I4 room0 l w s) (sSeq_nx (sIf_of h1 (fun z => by cases z) fun _ => rfl) (sSeq_ex (sIf_of h2 (fun _ => rfl) fun z => by cases z)))).trans rfl
    | true =>
      rw [q2] at h2
      cases q3 : sgB l w s with
      | false =>
        rw [q3] at h3
        exact (mDef_ex (ρ := I4 room0 l w s) (sSeq_nx (sIf_of h1 (fun z => by cases z) fun _ => rfl) (sSeq_nx (sIf_of h2 (fun z => by cases z) fun _ => rfl) (sSeq_ex (sIf_of h3 (fun _ => rfl) fun z => by cases z))))).trans rfl
      | true =>
        rw [q3] at h3
        refine (mDef_nx (ρ := I4 (room l w s) l w s) (sSeq_nx (sIf_of h1 (fun z => by cases z) fun _ => rfl) (sSeq_nx (sIf_of h2 (fun z => by cases z) fun _ => rfl) (sSeq_nx (sIf_of h3 (fun z => by cases z) fun _ => rfl) ?_)))).trans rfl
        rfl
end
end L2.MX.Lw
end
section
set_option Elab.async false
set_option linter.all false
set_option maxRecDepth 100000
namespace L2.MX.Lw
open PySem PySem.Spec PyProof.Rows
local instance tb5 : TabT := ⟨[], []⟩
theorem mMake_of {c : Str} {dfl : List D} {fm : MF} {args : MA} {ρ ρ1 : Env} {os : List Opd} {cs outs : Env} {d : D} (h : args ρ = .ok os ρ1) (hp : plainsOf ρ1 os = some cs) (hf : fm (.io (.ins c [] []) :: (cs ++ dfl.map Cell.pl)) = .rt (.pl .non) (.io d :: outs)) : mMake c dfl fm args ρ = .ok (.pl d) ρ1 := by
  unfold mMake bindM
  simp only [h, hp, hf]
theorem mMake_ex {c : Str} {dfl : List D} {fm : MF} {args : MA} {ρ ρ1 : Env} {os : List Opd} {cs outs : Env} {x : Exc} (h : args ρ = .ok os ρ1) (hp : plainsOf ρ1 os = some cs) (hf : fm (.io (.ins c [] []) :: (cs ++ dfl.map Cell.pl)) = .ex x outs) : mMake c dfl fm args ρ = .ex x ρ1 := by
  unfold mMake bindM
  simp only [h, hp, hf]
theorem mCallP_ex {dfl : List D} {fm : MF} {args : MA} {ρ ρ1 : Env} {os : List Opd} {cs outs : Env} {x : Exc} (h : args ρ = .ok os ρ1) (hp : plainsOf ρ1 os = some cs) (hf : fm (cs ++ dfl.map Cell.pl) = .ex x outs) : mCallP dfl fm args ρ = .ex x ρ1 := by
  unfold mCallP bindM
  simp only [h, hp, hf]
theorem mCaught_ok {ok : Str} {hs : List HdM} {LM : LMs} {ma : MO} {ρ ρ1 ρ2 : Env} {o : Opd} {k : Nat} {cl : List (Str × Addr)} {m : M} {r : RV} (h : ma ρ = .ok o ρ1) (ho : o.get ρ1 = some (.clo k cl)) (hl : LM k = some (m, cl)) (hm : m ρ1 = .ok r ρ2) : mCaught ok hs LM ma ρ = .ok (.pl (.tup [.str ok, r.d])) ρ2 := by
  unfold mCaught bindM
  simp only [h, ho, hl, if_true, caughtR, hm]
theorem mCaught_ex {ok : Str} {hs : List HdM} {LM : LMs} {ma : MO} {ρ ρ1 ρ2 : Env} {o : Opd} {k : Nat} {cl : List (Str × Addr)} {m : M} {x : Exc} {d : D} (h : ma ρ = .ok o ρ1) (ho : o.get ρ1 = some (.clo k cl)) (hl : LM k = some (m, cl)) (hm : m ρ1 = .ex x ρ2) (hc : catchM hs x = some d) : mCaught ok hs LM ma ρ = .ok (.pl d) ρ2 := by
  unfold mCaught bindM
  simp only [h, ho, hl, if_true, caughtR, hm, hc]
theorem mVar_pl {i : Nat} {ρ : Env} {d : D} (h : ρ[i]? = some (.pl d)) : mVar i ρ = .ok (.pl d) ρ := by
  unfold mVar
  rw [h]
theorem args3 {i j k : Nat} {ρ : Env} {a b c : D} (hi : ρ[i]? = some (.pl a)) (hj : ρ[j]? = some (.pl b)) (hk : ρ[k]? = some (.pl c)) : mAc (oVal (mVar i)) (mAc (oVal (mVar j)) (mAc (oVal (mVar k)) mA0)) ρ = .ok [.val a, .val b, .val c] ρ :=
  mAc_of (oVal_of (mVar_pl hi)) (mAc_of (oVal_of (mVar_pl hj)) (mAc_of (oVal_of (mVar_pl hk)) rfl))
/-- Room(a, b, c) of three names -/
abbrev mkR (i j k : Nat) : M := mMake "Room" (df_Room_m___init__.drop 0) m_Room_m___init__ (mAc (oVal (mVar i)) (mAc (oVal (mVar j)) (mAc (oVal (mVar k)) mA0)))
abbrev exR (x : Str) : Exc := ⟨"BadRoom", ["why"], [.str x]⟩
theorem mk_ok {i j k : Nat} {ρ : Env} {l w s : Int} (hs : s ∈ S16) (hi : ρ[i]? = some (.pl (.int l))) (hj : ρ[j]? = some (.pl (.int w))) (hk : ρ[k]? = some (.pl (.int s))) (h : dueF l w s = none) : mkR i j k ρ = .ok (.pl (room l w s)) ρ :=
  mMake_of (args3 hi hj hk) (cs := [.pl (.int l), .pl (.int w), .pl (.int s)]) rfl ((f_init (l := l) (w := w) hs).trans (by rw [h]))
theorem mk_ex {i j k : Nat} {ρ : Env} {l w s : Int} {x : Str} (hs : s ∈ S16) (hi : ρ[i]? = some (.pl (.int l))) (hj : ρ[j]? = some (.pl (.int w))) (hk : ρ[k]? = some (.pl (.int s))) (h : dueF l w s = some x) : mkR i j k ρ = .ex (exR x) ρ :=
  mMake_ex (args3 hi hj hk) (cs := [.pl (.int l), .pl (.int w), .pl (.int s)]) rfl ((f_init (l := l) (w := w) hs).trans (by rw [h]))
theorem eq_t3 {a b c x y z : Int} : dEqB (.tup [.int a, .int b, .int c]) (.tup [.int x, .int y, .int z]) = some (decide (a = x) && (decide (b = y) && decide (c = z))) := by
  simp [dEqB, toPy, toPys, PyData.eqv, SeqAt.shaped]
  exact ⟨⟨⟨by kernel_rfl, Nat.le_of_ble_eq_true (by kernel_rfl)⟩, by kernel_rfl, Nat.le_of_ble_eq_true (by kernel_rfl)⟩, by
    simp [PyData.eqvAll, PyData.eqv]
    rfl⟩
theorem eqB_refl {d : D} {p : PyData} (h : toPy d = some p) (hs : SeqAt.shaped p = true) : dEqB d d = some true := by
  unfold dEqB
  rw [h]
  simp only [hs, Bool.and_self, if_true, Option.some.injEq]
  refine SeqAt.eqv_refl p ?_
  unfold SeqAt.shaped at hs
  exact (Bool.and_eq_true_iff.mp hs).1
theorem sh_s2 {a b : Str} (ha : (PyData.str a).canLay0 = true) (hb : (PyData.str b).canLay0 = true) : SeqAt.shaped (.tuple [.str a, .str b]) = true := by
  have e : (PyData.tuple [.str a, .str b]).canLay0 = ((PyData.str a).canLay0 && ((PyData.str b).canLay0 && true)) := by kernel_rfl
  unfold SeqAt.shaped
  rw [e, ha, hb, Bool.and_self, Bool.and_self, Bool.true_and]
  exact decide_eq_true (Nat.le_of_ble_eq_true (by kernel_rfl))
theorem sh_s3 {a b c : Str} (ha : (PyData.str a).canLay0 = true) (hb : (PyData.str b).canLay0 = true) (hc : (PyData.str c).canLay0 = true) : SeqAt.shaped (.tuple [.str a, .str b, .str c]) = true := by
  have e : (PyData.tuple [.str a, .str b, .str c]).canLay0 = ((PyData.str a).canLay0 && ((PyData.str b).canLay0 && ((PyData.str c).canLay0 && true))) := by kernel_rfl
  unfold SeqAt.shaped
  rw [e, ha, hb, hc, Bool.and_self, Bool.and_self, Bool.and_self, Bool.true_and]
  exact decide_eq_true (Nat.le_of_ble_eq_true (by kernel_rfl))
theorem eq_s2 {a b : Str} (ha : (PyData.str a).canLay0 = true) (hb : (PyData.str b).canLay0 = true) : dEqB (.tup [.str a, .str b]) (.tup [.str a, .str b]) = some true := eqB_refl (p := .tuple [.str a, .str b]) rfl (sh_s2 ha hb)
theorem eq_s3 {a b c : Str} (ha : (PyData.str a).canLay0 = true) (hb : (PyData.str b).canLay0 = true) (hc : (PyData.str c).canLay0 = true) : dEqB (.tup [.str a, .str b, .str c]) (.tup [.str a, .str b, .str c]) = some true := eqB_refl (p := .tuple [.str a, .str b, .str c]) rfl (sh_s3 ha hb hc)
/-! own == -/
theorem f_eqR {a b c x y z : Int} : m_Room_m___eq__ [.pl (room a b c), .pl (room x y z)] = .rt (.pl (.bl (decide (a = x) && (decide (b = y) && decide (c = z))))) [.un, .un] := by
  refine (mDef_rt (ρ := [.pl (room a b c), .pl (room x y z)]) (sSeq_nx (sIf_of (k := false) (ρ1 := [.pl (room a b c), .pl (room x y z)]) (mtNot_of (c := true) (mtB_of (mUn_of (o := .slot 1) (d := room x y z) rfl rfl rfl))) (fun z => by cases z) fun _ => rfl) (sSeq_rt (sRet_of ?_)))).trans rfl
  refine mOp_of (o := .val (.tup [.int a, .int b, .int c])) (p := .val (.tup [.int x, .int y, .int z])) rfl rfl rfl rfl ?_
  unfold dEq
  rw [eq_t3]
  rfl
theorem f_eqT {a b c : Int} {ds : List D} : m_Room_m___eq__ [.pl (room a b c), .pl (.tup ds)] = .rt (.pl (.bl false)) [.un, .un] := rfl
/-- a == b of an instance -/
theorem mEqO_ins {ne : Bool} {f : Fn2} {ma mb : MO} {ρ ρ1 ρ2 : Env} {o p : Opd} {a b c : Int} {d : D} {r : Bool} {outs : Env} (ha : ma ρ = .ok o ρ1) (hb : mb ρ1 = .ok p ρ2) (ho : o.get ρ2 = some (room a b c)) (hp : p.get ρ2 = some d) (hk : knownR CL (some d) = true) (hpl : plainsOf ρ2 [o, p] = some [.pl (room a b c), .pl d])
    (hf : m_Room_m___eq__ [.pl (room a b c), .pl d] = .rt (.pl (.bl r)) outs) : mEqO CL ne eqs f ma mb ρ = .ok (.pl (.bl (if ne then !r else r))) ρ2 := by
  unfold mEqO bindM
  have e1 : clOf CL "Room" = some ⟨"Room", ["level", "weight", "sign"], true⟩ := by kernel_rfl
  have e2 : eqs.find? (fun q => q.1 == ("Room" : Str)) = some (("Room" : Str), m_Room_m___eq__) := by kernel_rfl
  have ho' : o.get ρ2 = some (.ins "Room" ["level", "weight", "sign"] [.int a, .int b, .int c]) := ho
  simp only [ha, hb, ho', hp, e1, e2, hpl, hk, hf, Bool.and_self, if_true]
/-- .. of data -/
theorem mEqO_dat {ne : Bool} {f : Fn2} {ma mb : MO} {ρ ρ1 ρ2 : Env} {o p : Opd} {d e : D} {r : RV} (ha : ma ρ = .ok o ρ1) (hb : mb ρ1 = .ok p ρ2) (ho : o.get ρ2 = some d) (hp : p.get ρ2 = some e) (hd : ∀ c fs ds, d ≠ .ins c fs ds) (hf : f d e = some r) : mEqO CL ne eqs f ma mb ρ = .ok r ρ2 := by
  unfold mEqO bindM
  simp only [ha, hb]
  cases d with
  | ins c fs ds => exact absurd rfl (hd c fs ds)
  | _ => simp only [ho, ap2, hp, hf]
end L2.MX.Lw
end
section
set_option Elab.async false
set_option linter.all false
set_option maxRecDepth 100000
namespace L2.MX.Lw
open PySem PySem.Spec PyProof.Rows
local instance tb6 : TabT := ⟨[], []⟩
def sh (z : Int) : Str := (PyData.int z).shown
def okS (z : Int) : Bool := showB (.int z) && (PyData.str (sh z)).canLay0
theorem okS_lay {z : Int} (h : okS z = true) : (PyData.str (sh z)).canLay0 = true := (Bool.and_eq_true_iff.mp h).2
theorem repr_int {z : Int} (h : okS z = true) : dRepr [.int z] = some (.pl (.str (sh z))) := by
  have e : showB (.int z) = true := (Bool.and_eq_true_iff.mp h).1
  show (if showB (.int z) = true then some (RV.pl (.str (PyData.int z).shown)) else none) = _
  rw [if_pos e]
  rfl
theorem reprD_int {z : Int} (h : okS z = true) : reprD (.int z) = some (.str (sh z)) := by
  have e : showB (.int z) = true := (Bool.and_eq_true_iff.mp h).1
  show (if showB (.int z) = true then some (D.str (PyData.int z).shown) else none) = _
  rw [if_pos e]
  rfl
abbrev exN (d : D) : Exc := ⟨"BadNumber", ["what", "value"], [.str "level", d]⟩
abbrev exI (d : D) : Exc := ⟨"BadItem", ["value"], [d]⟩
section
variable {l w s o : Int}
def barO (l o : Int) : Bool := decide (o < 1) || !decide (o % l = 0)
abbrev R2e (l o : Int) : Env := [.pl (.int l), .pl (.int o)]
theorem t_bo (hl : 0 < l) : mtOr (mtNot (mtB (mCallP (df_is_integer.drop 0) m_is_integer (mAc (oVal (mVar 1)) mA0)))) (mtOr (mtB (mOp dLt (oVar 1) (oVal (mK (.int 1))))) (mtB (mOp dNe (oVal (mOp dMod (oVar 1) (oVar 0))) (oVal (mK (.int 0)))))) (R2e l o) = .ok (barO l o) (R2e l o) := by
  refine mtOr_f (mtNot_of (c := true) (mtB_of (mCallP_of (os := [.val (.int o)]) rfl rfl (f_is_integer o)))) ?_
  exact mtOr_of (x := decide (o < 1)) (mtB_of (mOp_of (o := .slot 1) (p := .val (.int 1)) rfl rfl rfl rfl rfl)) (fun _ => mtB_of (mOp_of (oVal_of (mOp_of (o := .slot 1) (p := .slot 0) rfl rfl rfl rfl (mod_any hl))) rfl rfl rfl ne_int)) fun _ => rfl
theorem f_nm (hl : 0 < l) : m_need_multiple (R2e l o) = if barO l o = true then .ex (exN (.int o)) [.un, .un] else if lvB o = true then .rt (.pl .non) [.un, .un] else .ex (exR "level") [.un, .un] := by
  have h1 := t_bo (o := o) hl
  have h2 := mtNot_of (mtB_of (mCallP_of (dfl := []) (args := mAc (oVal (mVar 1)) mA0) (ρ := R2e l o) (os := [.val (.int o)]) rfl rfl (f_is_level o)))
  cases q1 : barO l o with
  | true =>
    rw [q1] at h1
    rw [if_pos rfl]
    have e : b_need_multiple (R2e l o ++ List.replicate 0 .un) = .ex (exN (.int o)) (R2e l o) := sSeq_ex (sIf_of h1 (fun _ => rfl) fun z => by cases z)
    exact (mDef_ex e).trans rfl
  | false =>
    rw [q1] at h1
    rw [if_neg (by decide)]
    cases q2 : lvB o with
    | true =>
      rw [q2] at h2
      rw [if_pos rfl]
      exact (mDef_nx (ρ := R2e l o) (sSeq_nx (sIf_of h1 (fun z => by cases z) fun _ => rfl) (sSeq_nx (sIf_of h2 (fun z => by cases z) fun _ => rfl) rfl))).trans rfl
    | false =>
      rw [q2] at h2
      rw [if_neg (by decide)]
      exact (mDef_ex (ρ := R2e l o) (sSeq_nx (sIf_of h1 (fun z => by cases z) fun _ => rfl) (sSeq_ex (sIf_of h2 (fun _ => rfl) fun z => by cases z)))).trans rfl
/-- a room's facts -/
structure RoomOk (l w s : Int) : Prop where
  due : dueF l w s = none
  s16 : s ∈ S16
theorem due_none (h : dueF l w s = none) : lvB l = true ∧ wtB w = true ∧ sgB l w s = true := by
  unfold dueF at h
  split at h
  · rename_i h1
    split at h
    · rename_i h2
      split at h
      · rename_i h3
        exact ⟨h1, h2, h3⟩
      · cases h
    · cases h
  · cases h
theorem lv_iff : lvB l = true ↔ 1 ≤ l ∧ l ≤ 10000 := by
  unfold lvB
  rw [Bool.and_eq_true, decide_eq_true_iff, decide_eq_true_iff]
theorem due_up (h : RoomOk l w s) (hb : barO l o = false) (ho : lvB o = true) : dueF o w s = none := by
  obtain ⟨h1, h2, h3⟩ := due_none h.due
  unfold sgB at h3
  rw [Bool.and_eq_true, Bool.and_eq_true, decide_eq_true_iff] at h3
  obtain ⟨q1, q2, q3⟩ := h3
  unfold barO at hb
  rw [Bool.or_eq_false_iff, Bool.not_eq_false', decide_eq_true_iff] at hb
  have d1 : cond s ∣ l := Int.dvd_of_emod_eq_zero q3
  have d2 : l ∣ o := Int.dvd_of_emod_eq_zero hb.2
  have e : o % cond s = 0 := Int.emod_eq_zero_of_dvd (Int.dvd_trans d1 d2)
  have e2 : sgB o w s = true := by
    unfold sgB
    rw [q1, q2, decide_eq_true e]
    rfl
  unfold dueF
  rw [if_pos ho, if_pos h2, if_pos e2]
abbrev RA (l w s : Int) (d : D) : Env := [.pl (room l w s), .pl d]
theorem ra_1 {d : D} : mCallP (df_need_room.drop 0) m_need_room (mAc (oVal (mVar 0)) mA0) (RA l w s d) = .ok (.pl .non) (RA l w s d) := by rfl
theorem ra_2 {d : D} : mAc (oVal (mUn (dFld CL "level") (oVar 0))) (mAc (oVal (mVar 1)) mA0) (RA l w s d) = .ok [.val (.int l), .val d] (RA l w s d) := by rfl
theorem ra_3 : mAc (oVal (mVar 1)) (mAc (oVal (mUn (dFld CL "weight") (oVar 0))) (mAc (oVal (mUn (dFld CL "sign") (oVar 0))) mA0)) (RA l w s (.int o)) = .ok [.val (.int o), .val (.int w), .val (.int s)] (RA l w s (.int o)) := by rfl
theorem sExpr_of {m : M} {ρ ρ1 : Env} {r : RV} (h : m ρ = .ok r ρ1) : sExpr m ρ = .nx ρ1 := by
  unfold sExpr ofE
  rw [h]
theorem sExpr_ex {m : M} {ρ ρ1 : Env} {x : Exc} (h : m ρ = .ex x ρ1) : sExpr m ρ = .ex x ρ1 := by
  unfold sExpr ofE
  rw [h]
theorem f_at (h : RoomOk l w s) : m_room_at (RA l w s (.int o)) = if barO l o = true then .ex (exN (.int o)) [.un, .un] else if lvB o = true then .rt (.pl (room o w s)) [.un, .un] else .ex (exR "level") [.un, .un] := by
  have hl : 0 < l := by
    have := (lv_iff.mp (due_none h.due).1).1
    omega
  have h1 := f_nm (o := o) hl
  cases q1 : barO l o with
  | true =>
    rw [q1] at h1
    rw [if_pos rfl]
    exact (mDef_ex (ρ := RA l w s (.int o)) (sSeq_nx (sExpr_of ra_1) (sSeq_ex (sExpr_ex (mCallP_ex ra_2 rfl h1))))).trans rfl
  | false =>
    rw [q1] at h1
    rw [if_neg (by decide)]
    cases q2 : lvB o with
    | true =>
      rw [q2] at h1
      rw [if_pos rfl]
      refine (mDef_rt (ρ := RA l w s (.int o)) (sSeq_nx (sExpr_of ra_1) (sSeq_nx (sExpr_of (mCallP_of ra_2 rfl h1)) (sSeq_rt (sRet_of ?_))))).trans rfl
      exact mMake_of ra_3 (cs := [.pl (.int o), .pl (.int w), .pl (.int s)]) rfl ((f_init (l := o) (w := w) h.s16).trans (by rw [due_up h q1 q2]))
    | false =>
      rw [q2] at h1
      rw [if_neg (by decide)]
      exact (mDef_ex (ρ := RA l w s (.int o)) (sSeq_nx (sExpr_of ra_1) (sSeq_ex (sExpr_ex (mCallP_ex ra_2 rfl h1))))).trans rfl
/-- what is no level -/
def badD (l : Int) : List D := [.non, .bl true, .str "4", .tup [.int 4], .int 0, .int (-l)]
theorem f_bad (h : RoomOk l w s) {d : D} (hd : d ∈ badD l) : m_room_at (RA l w s d) = .ex (exN d) [.un, .un] := by
  have hl := (lv_iff.mp (due_none h.due).1).1
  simp only [badD, List.mem_cons, List.not_mem_nil, or_false] at hd
  rcases hd with rfl | rfl | rfl | rfl | rfl | rfl
  · rfl
  · rfl
  · rfl
  · rfl
  · rw [f_at h, if_pos (by unfold barO; rw [decide_eq_true (by decide)]; rfl)]
  · rw [f_at h, if_pos (by unfold barO; rw [decide_eq_true (by omega)]; rfl)]
end
end L2.MX.Lw
end
section
set_option Elab.async false
set_option linter.all false
set_option maxRecDepth 100000
namespace L2.MX.Lw
open PySem PySem.Spec PyProof.Rows
abbrev la0 (CE : List (Str × Addr)) : MS := (sSet 3 (mCallQ (df__law_pick.drop 0) m__law_pick (mAc (oVar 1) (mAc (oVal (mLst (mAc (oVal (mK (.int 1))) (mAc (oVal (mUn dNeg (oVal (mK (.int 1))))) (mAc (oVal (mK (.int 2))) (mAc (oVal (mUn dNeg (oVal (mK (.int 2))))) (mAc (oVal (mK (.int 3))) (mAc (oVal (mUn dNeg (oVal (mK (.int 3))))) (mAc (oVal (mK (.int 5))) (mAc (oVal (mUn dNeg (oVal (mK (.int 7))))) (mAc (oVal (mK (.int 6))) (mAc (oVal (mUn dNeg (oVal (mK (.int 6))))) (mAc (oVal (mK (.int 4))) (mAc (oVal (mUn dNeg (oVal (mK (.int 4))))) (mAc (oVal (mK (.int 12))) (mAc (oVal (mK (.int 0))) (mAc (oVal (mK (.int 21))) (mAc (oVal (mUn dNeg (oVal (mK (.int 23))))) mA0)))))))))))))))))) mA0))))
abbrev la1 (CE : List (Str × Addr)) : MS := (sSet 4 (mOp dMul (oVal (mCallQ (df__law_pick.drop 0) m__law_pick (mAc (oVar 1) (mAc (oVal (mLst (mAc (oVal (mK (.int 1))) (mAc (oVal (mK (.int 2))) (mAc (oVal (mK (.int 4))) (mAc (oVal (mK (.int 8))) (mAc (oVal (mK (.int 12))) (mAc (oVal (mK (.int 24))) (mAc (oVal (mK (.int 23))) (mAc (oVal (mK (.int 60))) (mAc (oVal (mK (.int 84))) (mAc (oVal (mK (.int 120))) (mAc (oVal (mK (.int 5000))) (mAc (oVal (mK (.int 10000))) mA0)))))))))))))) mA0)))) (oVal (mOp dAdd (oVal (mK (.int 1))) (oVal (mCallQ (df__law_draw.drop 0) m__law_draw (mAc (oVar 1) (mAc (oVal (mK (.int 4))) mA0))))))))
abbrev la2 (CE : List (Str × Addr)) : MS := (sSet 5 (mIf (mtB (mOp dGt (oVal (mCallQ (df__law_draw.drop 0) m__law_draw (mAc (oVar 1) (mAc (oVal (mK (.int 5))) mA0)))) (oVal (mK (.int 0))))) (mOp dAdd (oVal (mK (.int 1))) (oVal (mCallQ (df__law_draw.drop 0) m__law_draw (mAc (oVar 1) (mAc (oVal (mK (.int 12))) mA0))))) (mCallQ (df__law_pick.drop 0) m__law_pick (mAc (oVar 1) (mAc (oVal (mLst (mAc (oVal (mK (.int 60))) (mAc (oVal (mK (.int 61))) (mAc (oVal (mK (.int 59))) (mAc (oVal (mK (.int 0))) (mAc (oVal (mUn dNeg (oVal (mK (.int 2))))) mA0))))))) mA0)))))
abbrev la3 (CE : List (Str × Addr)) : MS := (sIf (mtAnd (mtB (mOp dEq (oVal (mCallQ (df__law_draw.drop 0) m__law_draw (mAc (oVar 1) (mAc (oVal (mK (.int 3))) mA0)))) (oVal (mK (.int 0))))) (mtB (mOp dNe (oVar 3) (oVal (mK (.int 0)))))) (sSeq (sSet 4 (mOp dMul (oVal (mCallP (df__law_conductor.drop 0) m__law_conductor (mAc (oVal (mVar 3)) mA0))) (oVal (mOp dAdd (oVal (mK (.int 1))) (oVal (mCallQ (df__law_draw.drop 0) m__law_draw (mAc (oVar 1) (mAc (oVal (mK (.int 5))) mA0)))))))) sNil) sNil)
abbrev la4 (CE : List (Str × Addr)) : MS := (sSet 6 (mCallP (df__law_due.drop 0) m__law_due (mAc (oVal (mVar 4)) (mAc (oVal (mVar 5)) (mAc (oVal (mVar 3)) mA0)))))
abbrev la5 (CE : List (Str × Addr)) : MS := (sSet 7 (mCaught "ok" hs__law_complaint (lm_law CE) (oVal (mLam 4 (cloFrom CE (lam_4).scope.names [])))))
abbrev la6 (CE : List (Str × Addr)) : MS := (sIf (mtB (mOp dNotN (oVar 6) (oVal (mK .non)))) (sSeq (sIf (mtB (mEqO CL true eqs dNe (oVar 7) (oVal (mTup (mAc (oVal (mK (.str "room"))) (mAc (oVal (mVar 6)) mA0)))))) (sSeq (sRet (mK (.bl false))) sNil) sNil) (sSeq sCont sNil)) sNil)
abbrev la7 (CE : List (Str × Addr)) : MS := (sIf (mtOr (mtB (mOp dNe (oVal (mOp dIx (oVar 7) (oVal (mK (.int 0))))) (oVal (mK (.str "ok"))))) (mtOr (mtB (mEqO CL true eqs dNe (oVal (mTup (mAc (oVal (mUn (dFld CL "level") (oVal (mOp dIx (oVar 7) (oVal (mK (.int 1))))))) (mAc (oVal (mUn (dFld CL "weight") (oVal (mOp dIx (oVar 7) (oVal (mK (.int 1))))))) (mAc (oVal (mUn (dFld CL "sign") (oVal (mOp dIx (oVar 7) (oVal (mK (.int 1))))))) mA0))))) (oVal (mTup (mAc (oVal (mVar 4)) (mAc (oVal (mVar 5)) (mAc (oVal (mVar 3)) mA0))))))) (mtB (mEqO CL true eqs dNe (oVal (mOp dIx (oVar 7) (oVal (mK (.int 1))))) (oVal (mMake "Room" (df_Room_m___init__.drop 0) m_Room_m___init__ (mAc (oVal (mVar 4)) (mAc (oVal (mVar 5)) (mAc (oVal (mVar 3)) mA0))))))))) (sSeq (sRet (mK (.bl false))) sNil) sNil)
abbrev la8 (CE : List (Str × Addr)) : MS := (sSet 8 (mOp dAdd (oVal (mOp dMul (oVar 4) (oVal (mOp dAdd (oVal (mK (.int 1))) (oVal (mCallQ (df__law_draw.drop 0) m__law_draw (mAc (oVar 1) (mAc (oVal (mK (.int 5))) mA0)))))))) (oVal (mCallQ (df__law_pick.drop 0) m__law_pick (mAc (oVar 1) (mAc (oVal (mLst (mAc (oVal (mK (.int 0))) (mAc (oVal (mK (.int 0))) (mAc (oVal (mK (.int 0))) (mAc (oVal (mK (.int 1))) (mAc (oVal (mUn dNeg (oVal (mK (.int 1))))) mA0))))))) mA0))))))
abbrev la9 (CE : List (Str × Addr)) : MS := (sSet 9 (mIf (mtOr (mtB (mOp dLt (oVar 8) (oVal (mK (.int 1))))) (mtB (mOp dNe (oVal (mOp dMod (oVar 8) (oVar 4))) (oVal (mK (.int 0)))))) (mTup (mAc (oVal (mK (.str "number"))) (mAc (oVal (mK (.str "level"))) (mAc (oVal (mCall dRepr (mAc (oVar 8) mA0))) mA0)))) (mIf (mtB (mOp dGt (oVar 8) (oVal (mK (.int 10000))))) (mTup (mAc (oVal (mK (.str "room"))) (mAc (oVal (mK (.str "level"))) mA0))) (mK .non))))
abbrev la10 (CE : List (Str × Addr)) : MS := (sSet 10 (mCaught "ok" hs__law_complaint (lm_law CE) (oVal (mLam 3 (cloFrom CE (lam_3).scope.names [])))))
abbrev la11 (CE : List (Str × Addr)) : MS := (sIf (mtOr (mtAnd (mtB (mOp dNotN (oVar 9) (oVal (mK .non)))) (mtB (mEqO CL true eqs dNe (oVar 10) (oVar 9)))) (mtAnd (mtB (mOp dIsN (oVar 9) (oVal (mK .non)))) (mtOr (mtB (mOp dNe (oVal (mOp dIx (oVar 10) (oVal (mK (.int 0))))) (oVal (mK (.str "ok"))))) (mtB (mEqO CL true eqs dNe (oVal (mOp dIx (oVar 10) (oVal (mK (.int 1))))) (oVal (mMake "Room" (df_Room_m___init__.drop 0) m_Room_m___init__ (mAc (oVal (mVar 8)) (mAc (oVal (mVar 5)) (mAc (oVal (mVar 3)) mA0)))))))))) (sSeq (sRet (mK (.bl false))) sNil) sNil)
abbrev la12 (CE : List (Str × Addr)) : MS := (sIf (mtOr (mtAnd (mtB (mEqO CL true eqs dNe (oVar 8) (oVar 4))) (mtAnd (mtB (mOp dIsN (oVar 9) (oVal (mK .non)))) (mtB (mEqO CL false eqs dEq (oVal (mOp dIx (oVar 10) (oVal (mK (.int 1))))) (oVal (mOp dIx (oVar 7) (oVal (mK (.int 1))))))))) (mtB (mEqO CL false eqs dEq (oVal (mOp dIx (oVar 7) (oVal (mK (.int 1))))) (oVal (mTup (mAc (oVal (mVar 4)) (mAc (oVal (mVar 5)) (mAc (oVal (mVar 3)) mA0)))))))) (sSeq (sRet (mK (.bl false))) sNil) sNil)
abbrev la13 (CE : List (Str × Addr)) : MS := (sSet 11 (mCallQ (df__law_pick.drop 0) m__law_pick (mAc (oVar 1) (mAc (oVal (mLst (mAc (oVal (mK .non)) (mAc (oVal (mK (.bl true))) (mAc (oVal (mK (.str "4"))) (mAc (oVal (mTup (mAc (oVal (mK (.int 4))) mA0))) (mAc (oVal (mK (.int 0))) (mAc (oVal (mUn dNeg (oVar 4))) mA0)))))))) mA0))))
abbrev la14 (CE : List (Str × Addr)) : MS := (sIf (mtB (mEqO CL true eqs dNe (oVal (mCaught "ok" hs__law_complaint (lm_law CE) (oVal (mLam 2 (cloFrom CE (lam_2).scope.names []))))) (oVal (mTup (mAc (oVal (mK (.str "number"))) (mAc (oVal (mK (.str "level"))) (mAc (oVal (mCall dRepr (mAc (oVar 11) mA0))) mA0))))))) (sSeq (sRet (mK (.bl false))) sNil) sNil)
abbrev lb0 (CE : List (Str × Addr)) : MS := (sSet 13 (mCallQ (df__law_pick.drop 0) m__law_pick (mAc (oVar 1) (mAc (oVal (mLst (mAc (oVal (mK .non)) (mAc (oVal (mK (.bl true))) (mAc (oVal (mK (.str "1"))) (mAc (oVal (mTup (mAc (oVal (mK (.int 1))) mA0))) mA0)))))) mA0))))
abbrev lb1 (CE : List (Str × Addr)) : MS := (sSet 14 (mLst (mAc (oVal (mK (.int 12))) (mAc (oVal (mK (.int 2))) (mAc (oVal (mK (.int 1))) mA0)))))
abbrev lb2 (CE : List (Str × Addr)) : MS := (sSetIx 14 (mVar 12) (mVar 13))
abbrev lb3 (CE : List (Str × Addr)) : MS := (sIf (mtB (mEqO CL true eqs dNe (oVal (mCaught "ok" hs__law_complaint (lm_law CE) (oVal (mLam 1 (cloFrom CE (lam_1).scope.names []))))) (oVal (mTup (mAc (oVal (mK (.str "room"))) (mAc (oVal (mOp dIx (oVal (mTup (mAc (oVal (mK (.str "level"))) (mAc (oVal (mK (.str "weight"))) (mAc (oVal (mK (.str "sign"))) mA0))))) (oVar 12))) mA0)))))) (sSeq (sRet (mK (.bl false))) sNil) sNil)
abbrev lapA (CE : List (Str × Addr)) : MS := (sSeq (la0 CE) (sSeq (la1 CE) (sSeq (la2 CE) (sSeq (la3 CE) (sSeq (la4 CE) (sSeq (la5 CE) (sSeq (la6 CE) (sSeq (la7 CE) (sSeq (la8 CE) (sSeq (la9 CE) (sSeq (la10 CE) (sSeq (la11 CE) (sSeq (la12 CE) (sSeq (la13 CE) (sSeq (la14 CE) sNil)))))))))))))))
abbrev lapB (CE : List (Str × Addr)) : MS := (sSeq (lb0 CE) (sSeq (lb1 CE) (sSeq (lb2 CE) (sSeq (lb3 CE) sNil))))
abbrev lw0 (CE : List (Str × Addr)) : MS := (sSet 1 (mCallP (df__law_pen.drop 0) m__law_pen (mAc (oVal (mVar 0)) mA0)))
abbrev lw1 (CE : List (Str × Addr)) : MS := (sFor (iRangeN 1 (mAc (oVal (mK (.int 8))) mA0)) (gNm 2) (lapA CE))
abbrev lw2 (CE : List (Str × Addr)) : MS := (sFor (iRangeN 1 (mAc (oVal (mK (.int 3))) mA0)) (gNm 12) (lapB CE))
abbrev lw3 (CE : List (Str × Addr)) : MS := (sSet 15 (mCallQ (df__law_pick.drop 0) m__law_pick (mAc (oVar 1) (mAc (oVal (mLst (mAc (oVal (mK .non)) (mAc (oVal (mTup (mAc (oVal (mK (.int 12))) (mAc (oVal (mK (.int 2))) (mAc (oVal (mK (.int 1))) mA0))))) (mAc (oVal (mK (.int 12))) mA0))))) mA0))))
abbrev lw4 (CE : List (Str × Addr)) : MS := (sRet (mEqO CL false eqs dEq (oVal (mCaught "ok" hs__law_complaint (lm_law CE) (oVal (mLam 0 (cloFrom CE (lam_0).scope.names []))))) (oVal (mTup (mAc (oVal (mK (.str "item"))) (mAc (oVal (mCall dRepr (mAc (oVar 15) mA0))) mA0))))))
theorem b_law_eq (CE : List (Str × Addr)) : b_law CE = (sSeq (lw0 CE) (sSeq (lw1 CE) (sSeq (lw2 CE) (sSeq (lw3 CE) (sSeq (lw4 CE) sNil))))) := by kernel_rfl
end L2.MX.Lw
end
section
set_option Elab.async false
set_option linter.all false
set_option maxRecDepth 100000
namespace L2.MX.Lw
open PySem PySem.Spec PyProof.Rows
local instance tb7 : TabT := ⟨[], []⟩
def bases : List Int := [1, 2, 4, 8, 12, 24, 23, 60, 84, 120, 5000, 10000]
def LV : List Int := (bases.flatMap fun b => (List.range 4).map fun (r : Nat) => b * (1 + (r : Int))) ++ S16.flatMap fun s => (List.range 5).map fun (r : Nat) => cond s * (1 + (r : Int))
def chkL (l : Int) : Bool := okS (-l) && (List.range 5).all fun (r : Nat) => ([0, 1, -1] : List Int).all fun e => okS (l * (1 + (r : Int)) + e)
theorem LV_ok : LV.all chkL = true := by decide +kernel
theorem LV_base {b : Int} {r : Nat} (hb : b ∈ bases) (hr : r < 4) : b * (1 + (r : Int)) ∈ LV := List.mem_append_left _ (List.mem_flatMap.mpr ⟨b, hb, List.mem_map.mpr ⟨r, List.mem_range.mpr hr, rfl⟩⟩)
theorem LV_cond {s : Int} {r : Nat} (hs : s ∈ S16) (hr : r < 5) : cond s * (1 + (r : Int)) ∈ LV := List.mem_append_right _ (List.mem_flatMap.mpr ⟨s, hs, List.mem_map.mpr ⟨r, List.mem_range.mpr hr, rfl⟩⟩)
theorem setOwn_ow {ρ : Env} {i : Nat} {d d' : D} (h : ρ[i]? = some (.ow d)) : setOwn ρ i d' = ρ.set i (.ow d') := by
  unfold setOwn
  rw [h]
  rfl
theorem oVar_ow {ρ : Env} {i : Nat} {d : D} (h : ρ[i]? = some (.ow d)) : oVar i ρ = .ok (.slot i) ρ := by
  unfold oVar
  rw [h]
theorem owned_ow {ρ : Env} {i : Nat} {d : D} (h : ρ[i]? = some (.ow d)) : ownedAt ρ i = some d := by
  unfold ownedAt
  rw [h]
abbrev mDr (k : Int) : M := mCallQ (df__law_draw.drop 0) m__law_draw (mAc (oVar 1) (mAc (oVal (mK (.int k))) mA0))
abbrev mPk (m : M) : M := mCallQ (df__law_pick.drop 0) m__law_pick (mAc (oVar 1) (mAc (oVal m) mA0))
theorem dr_of {c k : Nat} {P : D} {ρ : Env} (h : ρ[1]? = some (.ow P)) (hP : Pen c P) (hc : c ≤ 1000000) (hk : 1 ≤ k) (hk2 : k ≤ 1000000) : ∃ (r : Nat) (P' : D), r < k ∧ Pen (c + 1) P' ∧ mDr (k : Int) ρ = .ok (.pl (.int (r : Int))) (ρ.set 1 (.ow P')) := by
  obtain ⟨r, P', e, hr, hp⟩ := f_draw hP hc hk hk2
  refine ⟨r, P', hr, hp, ?_⟩
  rw [← setOwn_ow h]
  exact mCallQ_of (i := 1) (os := [.val (.int (k : Int))]) (mAc_of (oVar_ow h) rfl) rfl (owned_ow h) e
theorem pk_of {c : Nat} {P : D} {ρ : Env} {m : M} {xs : List D} (h : ρ[1]? = some (.ow P)) (hm : m ρ = .ok (.fr (.lst xs)) ρ) (hP : Pen c P) (hc : c ≤ 1000000) (h1 : 1 ≤ xs.length) (h2 : xs.length ≤ 1000000) : ∃ (x : D) (P' : D), x ∈ xs ∧ Pen (c + 1) P' ∧ mPk m ρ = .ok (.pl x) (ρ.set 1 (.ow P')) := by
  obtain ⟨x, P', hx, hp, e⟩ := f_pick hP hc h1 h2
  refine ⟨x, P', hx, hp, ?_⟩
  rw [← setOwn_ow h]
  exact mCallQ_of (i := 1) (os := [.val (.lst xs)]) (mAc_of (oVar_ow h) (mAc_of (oVal_of hm) rfl)) rfl (owned_ow h) e
theorem add_int {i j : Int} : dAdd (.int i) (.int j) = some (.pl (.int (i + j))) := rfl
theorem mem_ints {x : D} {l : List Int} (h : x ∈ l.map D.int) : ∃ z, z ∈ l ∧ x = .int z := by
  obtain ⟨z, h1, h2⟩ := List.mem_map.mp h
  exact ⟨z, h1, h2.symm⟩
theorem smallB {b : Int} (h : b ∈ bases) : smallI b = true := by
  have e : bases.all smallI = true := by decide
  exact List.all_eq_true.mp e b h
theorem smallS {s : Int} (h : s ∈ S16) : smallI (cond s) = true := by
  have e : (S16.all fun s => smallI (cond s)) = true := by decide
  exact List.all_eq_true.mp e s h
section
variable {CE : List (Str × Addr)} {c0 c2 c3 c4 c5 : Cell} {P : D} {c : Nat}
theorem put_pl {i : Nat} {ρ : Env} {c : Cell} {d : D} (h : ρ[i]? = some c) (hc : pc c) : putC i (.pl d) ρ = some (ρ.set i (.pl d)) := by
  unfold putC
  rw [h, pc_io hc]
  rfl
theorem Pen.up {c c' : Nat} {P : D} (h : Pen c P) (hc : c ≤ c') : Pen c' P := by
  obtain ⟨cs, a, n, d, f, e, h1, h2, h3⟩ := h.ex
  exact ⟨cs, a, n, d, f, e, h1, Nat.le_trans h2 hc, h3⟩
abbrev E6 (c0 : Cell) (P : D) (c2 c3 c4 c5 : Cell) (cs : List Cell) : Env := c0 :: .ow P :: c2 :: c3 :: c4 :: c5 :: cs
theorem la0_ok {cs : List Cell} (hP : Pen c P) (hc : c ≤ 1000) (p3 : pc c3) : ∃ s P', s ∈ S16 ∧ Pen (c + 1) P' ∧ la0 CE (E6 c0 P c2 c3 c4 c5 cs) = .nx (E6 c0 P' c2 (.pl (.int s)) c4 c5 cs) := by
  obtain ⟨x, P', hx, hp, e⟩ := pk_of (ρ := E6 c0 P c2 c3 c4 c5 cs) (xs := S16.map D.int) rfl (m := _) (by rfl) hP (by omega) (by decide) (by decide)
  obtain ⟨s, hs, rfl⟩ := mem_ints hx
  exact ⟨s, P', hs, hp, sSet_of e (put_pl (c := c3) rfl p3)⟩
theorem la1_ok {cs : List Cell} {s : Int} (hP : Pen c P) (hc : c ≤ 1000) (p4 : pc c4) : ∃ l P', l ∈ LV ∧ Pen (c + 2) P' ∧ la1 CE (E6 c0 P c2 (.pl (.int s)) c4 c5 cs) = .nx (E6 c0 P' c2 (.pl (.int s)) (.pl (.int l)) c5 cs) := by
  obtain ⟨x, P', hx, hp, e⟩ := pk_of (ρ := E6 c0 P c2 (.pl (.int s)) c4 c5 cs) (xs := bases.map D.int) rfl (m := _) (by rfl) hP (by omega) (by decide) (by decide)
  obtain ⟨b, hb, rfl⟩ := mem_ints hx
  obtain ⟨r, P2, hr, hp2, e2⟩ := dr_of (k := 4) (ρ := E6 c0 P' c2 (.pl (.int s)) c4 c5 cs) rfl hp (by omega) (by decide) (by decide)
  refine ⟨b * (1 + (r : Int)), P2, LV_base hb hr, hp2, sSet_of ?_ (put_pl (c := c4) (ρ := E6 c0 P2 c2 (.pl (.int s)) c4 c5 cs) rfl p4)⟩
  exact mOp_of (oVal_of e) (oVal_of (mOp_of (f := dAdd) (a := oVal (mK (.int 1))) rfl (oVal_of e2) rfl rfl add_int)) rfl rfl (mul_int (smallB hb))
theorem la2_ok {cs : List Cell} {s l : Int} (hP : Pen c P) (hc : c ≤ 1000) (p5 : pc c5) : ∃ w P', Pen (c + 2) P' ∧ la2 CE (E6 c0 P c2 (.pl (.int s)) (.pl (.int l)) c5 cs) = .nx (E6 c0 P' c2 (.pl (.int s)) (.pl (.int l)) (.pl (.int w)) cs) := by
  obtain ⟨r, P1, hr, hp1, e1⟩ := dr_of (k := 5) (ρ := E6 c0 P c2 (.pl (.int s)) (.pl (.int l)) c5 cs) rfl hP (by omega) (by decide) (by decide)
  have t1 := mtB_of (mOp_of (f := dGt) (b := oVal (mK (.int 0))) (oVal_of e1) rfl rfl rfl (show dGt (.int (r : Int)) (.int 0) = some (.pl (.bl (decide ((0 : Int) < (r : Int))))) from rfl))
  by_cases q : (0 : Int) < (r : Int)
  · rw [decide_eq_true q] at t1
    obtain ⟨r2, P2, hr2, hp2, e2⟩ := dr_of (k := 12) (ρ := E6 c0 P1 c2 (.pl (.int s)) (.pl (.int l)) c5 cs) rfl hp1 (by omega) (by decide) (by decide)
    exact ⟨_, P2, hp2, sSet_of (mIf_t t1 (mOp_of (f := dAdd) (a := oVal (mK (.int 1))) rfl (oVal_of e2) rfl rfl add_int)) (put_pl (c := c5) (ρ := E6 c0 P2 c2 (.pl (.int s)) (.pl (.int l)) c5 cs) rfl p5)⟩
  · rw [decide_eq_false q] at t1
    obtain ⟨x, P2, hx, hp2, e2⟩ := pk_of (ρ := E6 c0 P1 c2 (.pl (.int s)) (.pl (.int l)) c5 cs) (xs := ([60, 61, 59, 0, -2] : List Int).map D.int) rfl (m := _) (by rfl) hp1 (by omega) (by decide) (by decide)
    obtain ⟨w, hw, rfl⟩ := mem_ints hx
    exact ⟨w, P2, hp2, sSet_of (mIf_f t1 e2) (put_pl (c := c5) (ρ := E6 c0 P2 c2 (.pl (.int s)) (.pl (.int l)) c5 cs) rfl p5)⟩
theorem la3_ok {cs : List Cell} {s l w : Int} (hP : Pen c P) (hc : c ≤ 1000) (hs : s ∈ S16) (hl : l ∈ LV) : ∃ l' P', l' ∈ LV ∧ Pen (c + 2) P' ∧ la3 CE (E6 c0 P c2 (.pl (.int s)) (.pl (.int l)) (.pl (.int w)) cs) = .nx (E6 c0 P' c2 (.pl (.int s)) (.pl (.int l')) (.pl (.int w)) cs) := by
  obtain ⟨r, P1, hr, hp1, e1⟩ := dr_of (k := 3) (ρ := E6 c0 P c2 (.pl (.int s)) (.pl (.int l)) (.pl (.int w)) cs) rfl hP (by omega) (by decide) (by decide)
  have t1 := mtB_of (mOp_of (f := dEq) (b := oVal (mK (.int 0))) (oVal_of e1) rfl rfl rfl eq_int)
  by_cases q : ((r : Int) = 0)
  · rw [decide_eq_true q] at t1
    have t2 : mtB (mOp dNe (oVar 3) (oVal (mK (.int 0)))) (E6 c0 P1 c2 (.pl (.int s)) (.pl (.int l)) (.pl (.int w)) cs) = .ok (!decide (s = 0)) (E6 c0 P1 c2 (.pl (.int s)) (.pl (.int l)) (.pl (.int w)) cs) := mtB_of (mOp_of (o := .slot 3) (p := .val (.int 0)) rfl rfl rfl rfl ne_int)
    have t3 := mtAnd_t t1 t2
    by_cases q2 : s = 0
    · rw [decide_eq_true q2] at t3
      exact ⟨l, P1, hl, hp1.up (by omega), sIf_of t3 (fun z => by cases z) fun _ => rfl⟩
    · rw [decide_eq_false q2] at t3
      obtain ⟨r2, P2, hr2, hp2, e2⟩ := dr_of (k := 5) (ρ := E6 c0 P1 c2 (.pl (.int s)) (.pl (.int l)) (.pl (.int w)) cs) rfl hp1 (by omega) (by decide) (by decide)
      refine ⟨cond s * (1 + (r2 : Int)), P2, LV_cond hs hr2, hp2, sIf_of t3 (fun _ => sSeq_nx ?_ rfl) fun z => by cases z⟩
      refine sSet_of ?_ (put_pl (c := .pl (.int l)) (ρ := E6 c0 P2 c2 (.pl (.int s)) (.pl (.int l)) (.pl (.int w)) cs) rfl (pc_pl _))
      exact mOp_of (oVal_of (mCallP_of (dfl := []) (os := [.val (.int s)]) (cs := [.pl (.int s)]) rfl rfl (S_cd hs).2)) (oVal_of (mOp_of (f := dAdd) (a := oVal (mK (.int 1))) rfl (oVal_of e2) rfl rfl add_int)) rfl rfl (mul_int (smallS hs))
  · rw [decide_eq_false q] at t1
    exact ⟨l, P1, hl, hp1.up (by omega), sIf_of (mtAnd_f t1) (fun z => by cases z) fun _ => rfl⟩
end
end L2.MX.Lw
end
section
set_option Elab.async false
set_option linter.all false
set_option maxRecDepth 100000
namespace L2.MX.Lw
open PySem PySem.Spec PyProof.Rows
local instance tb8 : TabT := ⟨[], []⟩
theorem due_str {l w s : Int} {x : Str} (h : dueF l w s = some x) : x = "level" ∨ x = "weight" ∨ x = "sign" := by
  unfold dueF at h
  split at h
  · split at h
    · split at h
      · cases h
      · cases h; exact .inr (.inr rfl)
    · cases h; exact .inr (.inl rfl)
  · cases h; exact .inl rfl
theorem room_eq {x : Str} (h : x = "level" ∨ x = "weight" ∨ x = "sign") : dEqB (.tup [.str "room", .str x]) (.tup [.str "room", .str x]) = some true := by
  rcases h with rfl | rfl | rfl <;> exact eq_s2 (by decide +kernel) (by decide +kernel)
theorem ne_of_eqB {a b : D} {r : Bool} (h : dEqB a b = some r) : dNe a b = some (.pl (.bl (!r))) := by
  unfold dNe
  rw [h]
  rfl
section
variable {CE : List (Str × Addr)} {c0 c2 : Cell} {P : D} {c : Nat} {s l w o : Int} {c6 c7 c8 c9 c10 c11 : Cell} {cs : List Cell}
/-- the env of a lap -/
abbrev EA (c0 : Cell) (P : D) (c2 : Cell) (s l w : Int) (cs : List Cell) : Env := c0 :: .ow P :: c2 :: .pl (.int s) :: .pl (.int l) :: .pl (.int w) :: cs
theorem la4_ok (hs : s ∈ S16) (p6 : pc c6) : la4 CE (EA c0 P c2 s l w (c6 :: cs)) = .nx (EA c0 P c2 s l w (.pl (dueD (dueF l w s)) :: cs)) :=
  sSet_of (mCallP_of (dfl := []) (args3 rfl rfl rfl) (cs := [.pl (.int l), .pl (.int w), .pl (.int s)]) rfl (f_due hs)) (put_pl (c := c6) rfl p6)
def toldD (l w s : Int) : D := match dueF l w s with
  | none => .tup [.str "ok", room l w s]
  | some x => .tup [.str "room", .str x]
theorem ct_room (x : Str) : catchM hs__law_complaint (exR x) = some (.tup [.str "room", .str x]) := by kernel_rfl
theorem ct_num {d : D} {y : Str} (h : reprD d = some (.str y)) : catchM hs__law_complaint (exN d) = some (.tup [.str "number", .str "level", .str y]) := by
  have e : catchM hs__law_complaint (exN d) = (xaVs (exN d) [.k (.str "number"), .fld "what", .rep "value"]).map D.tup := by kernel_rfl
  have r : xaV (exN d) (.rep "value") = some (.str y) := h
  have k1 : xaV (exN d) (.k (.str "number")) = some (.str "number") := rfl
  have k2 : xaV (exN d) (.fld "what") = some (.str "level") := rfl
  rw [e]
  simp only [xaVs, r, k1, k2, Option.bind_some, Option.map_some]
theorem ct_item {d : D} {y : Str} (h : reprD d = some (.str y)) : catchM hs__law_complaint (exI d) = some (.tup [.str "item", .str y]) := by
  have e : catchM hs__law_complaint (exI d) = (xaVs (exI d) [.k (.str "item"), .rep "value"]).map D.tup := by kernel_rfl
  have r : xaV (exI d) (.rep "value") = some (.str y) := h
  have k1 : xaV (exI d) (.k (.str "item")) = some (.str "item") := rfl
  rw [e]
  simp only [xaVs, r, k1, Option.bind_some, Option.map_some]
theorem la5_ok (hs : s ∈ S16) (p7 : pc c7) : la5 CE (EA c0 P c2 s l w (c6 :: c7 :: cs)) = .nx (EA c0 P c2 s l w (c6 :: .pl (toldD l w s) :: cs)) := by
  refine sSet_of (r := .pl (toldD l w s)) (ρ1 := EA c0 P c2 s l w (c6 :: c7 :: cs)) ?_ (put_pl (c := c7) rfl p7)
  unfold toldD
  cases q : dueF l w s with
  | none => exact mCaught_ok (k := 4) (m := mkR 4 5 3) rfl rfl rfl (mk_ok hs rfl rfl rfl q)
  | some x => exact mCaught_ex (k := 4) (m := mkR 4 5 3) rfl rfl rfl (mk_ex hs rfl rfl rfl q) (ct_room x)
/-- not a room: the lap ends -/
theorem la6_ct {x : Str} (h : dueF l w s = some x) : la6 CE (EA c0 P c2 s l w (.pl (dueD (dueF l w s)) :: .pl (toldD l w s) :: cs)) = .ct (EA c0 P c2 s l w (.pl (.str x) :: .pl (.tup [.str "room", .str x]) :: cs)) := by
  unfold toldD
  rw [h]
  have t1 : mtB (mOp dNotN (oVar 6) (oVal (mK .non))) (EA c0 P c2 s l w (.pl (.str x) :: .pl (.tup [.str "room", .str x]) :: cs)) = .ok true (EA c0 P c2 s l w (.pl (.str x) :: .pl (.tup [.str "room", .str x]) :: cs)) := mtB_of (mOp_of (o := .slot 6) (p := .val .non) rfl rfl rfl rfl rfl)
  refine sIf_of t1 (fun _ => ?_) fun z => by cases z
  refine sSeq_nx (sIf_of (k := false) (mtB_of (mEqO_dat (o := .slot 7) (p := .val (.tup [.str "room", .str x])) (d := .tup [.str "room", .str x]) rfl (by rfl) rfl rfl (fun _ _ _ z => nomatch z) (ne_of_eqB (room_eq (due_str h))))) (fun z => by cases z) fun _ => rfl) rfl
theorem la6_nx (h : dueF l w s = none) : la6 CE (EA c0 P c2 s l w (.pl (dueD (dueF l w s)) :: .pl (toldD l w s) :: cs)) = .nx (EA c0 P c2 s l w (.pl .non :: .pl (.tup [.str "ok", room l w s]) :: cs)) := by
  unfold toldD
  rw [h]
  exact sIf_of (k := false) (mtB_of (mOp_of (o := .slot 6) (p := .val .non) rfl rfl rfl rfl rfl)) (fun z => by cases z) fun _ => rfl
abbrev EB (c0 : Cell) (P : D) (c2 : Cell) (s l w : Int) (cs : List Cell) : Env := EA c0 P c2 s l w (.pl .non :: .pl (.tup [.str "ok", room l w s]) :: cs)
theorem dec3 (l w s : Int) : (decide (l = l) && (decide (w = w) && decide (s = s))) = true := by
  rw [decide_eq_true (rfl : l = l), decide_eq_true (rfl : w = w), decide_eq_true (rfl : s = s)]
  rfl
theorem ok_ne : dNe (.str "ok") (.str "ok") = some (.pl (.bl false)) := by kernel_rfl
theorem la7_ok (h : RoomOk l w s) : la7 CE (EB c0 P c2 s l w cs) = .nx (EB c0 P c2 s l w cs) := by
  have t1 : mtB (mOp dNe (oVal (mOp dIx (oVar 7) (oVal (mK (.int 0))))) (oVal (mK (.str "ok")))) (EB c0 P c2 s l w cs) = .ok false (EB c0 P c2 s l w cs) := mtB_of (mOp_of (o := .val (.str "ok")) (p := .val (.str "ok")) rfl rfl rfl rfl ok_ne)
  have t2 : mtB (mEqO CL true eqs dNe (oVal (mTup (mAc (oVal (mUn (dFld CL "level") (oVal (mOp dIx (oVar 7) (oVal (mK (.int 1))))))) (mAc (oVal (mUn (dFld CL "weight") (oVal (mOp dIx (oVar 7) (oVal (mK (.int 1))))))) (mAc (oVal (mUn (dFld CL "sign") (oVal (mOp dIx (oVar 7) (oVal (mK (.int 1))))))) mA0))))) (oVal (mTup (mAc (oVal (mVar 4)) (mAc (oVal (mVar 5)) (mAc (oVal (mVar 3)) mA0)))))) (EB c0 P c2 s l w cs) = .ok false (EB c0 P c2 s l w cs) :=
    mtB_of (mEqO_dat (o := .val (.tup [.int l, .int w, .int s])) (p := .val (.tup [.int l, .int w, .int s])) (by rfl) (by rfl) rfl rfl (fun _ _ _ z => nomatch z) ((ne_of_eqB eq_t3).trans (by rw [dec3]; rfl)))
  have t3 : mtB (mEqO CL true eqs dNe (oVal (mOp dIx (oVar 7) (oVal (mK (.int 1))))) (oVal (mkR 4 5 3))) (EB c0 P c2 s l w cs) = .ok false (EB c0 P c2 s l w cs) := by
    have e := mEqO_ins (ne := true) (f := dNe) (ma := oVal (mOp dIx (oVar 7) (oVal (mK (.int 1))))) (mb := oVal (mkR 4 5 3)) (ρ := EB c0 P c2 s l w cs) (o := .val (room l w s)) (p := .val (room l w s)) (by rfl) (oVal_of (mk_ok h.s16 rfl rfl rfl h.due)) rfl rfl (by kernel_rfl) rfl f_eqR
    rw [dec3] at e
    exact mtB_of e
  exact sIf_of (mtOr_f t1 (mtOr_f t2 t3)) (fun z => by cases z) fun _ => rfl
end
end L2.MX.Lw
end
section
set_option Elab.async false
set_option linter.all false
set_option maxRecDepth 100000
namespace L2.MX.Lw
open PySem PySem.Spec PyProof.Rows
local instance tb9 : TabT := ⟨[], []⟩
theorem mTup_of {args : MA} {ρ ρ1 : Env} {os : List Opd} {ds : List D} (h : args ρ = .ok os ρ1) (hv : vals os = some ds) (hl : ds.length ≤ 1000) : mTup args ρ = .ok (.pl (.tup ds)) ρ1 := by
  unfold mTup bindM
  simp only [h, hv, hl, if_true]
theorem LV_small {l : Int} (h : l ∈ LV) : smallI l = true := by
  have e : LV.all smallI = true := by decide
  exact List.all_eq_true.mp e l h
theorem LV_neg {l : Int} (h : l ∈ LV) : okS (-l) = true := by
  have e := List.all_eq_true.mp LV_ok l h
  exact (Bool.and_eq_true_iff.mp e).1
theorem LV_oth {l e : Int} {r : Nat} (h : l ∈ LV) (hr : r < 5) (he : e ∈ ([0, 1, -1] : List Int)) : okS (l * (1 + (r : Int)) + e) = true := by
  have q := (Bool.and_eq_true_iff.mp (List.all_eq_true.mp LV_ok l h)).2
  exact List.all_eq_true.mp (List.all_eq_true.mp q r (List.mem_range.mpr hr)) e he
section
variable {CE : List (Str × Addr)} {c0 c2 : Cell} {P : D} {c : Nat} {s l w o : Int} {c8 c9 c10 c11 : Cell} {cs : List Cell}
theorem la8_ok (hP : Pen c P) (hc : c ≤ 1000) (hl : l ∈ LV) (p8 : pc c8) : ∃ o P', okS o = true ∧ Pen (c + 2) P' ∧ la8 CE (EB c0 P c2 s l w (c8 :: cs)) = .nx (EB c0 P' c2 s l w (.pl (.int o) :: cs)) := by
  obtain ⟨r, P1, hr, hp1, e1⟩ := dr_of (k := 5) (ρ := EB c0 P c2 s l w (c8 :: cs)) rfl hP (by omega) (by decide) (by decide)
  obtain ⟨x, P2, hx, hp2, e2⟩ := pk_of (ρ := EB c0 P1 c2 s l w (c8 :: cs)) (xs := ([0, 0, 0, 1, -1] : List Int).map D.int) rfl (m := _) (by rfl) hp1 (by omega) (by decide) (by decide)
  obtain ⟨e, he, rfl⟩ := mem_ints hx
  have he2 : e ∈ ([0, 1, -1] : List Int) := by
    simp only [List.mem_cons, List.not_mem_nil, or_false] at he ⊢
    omega
  refine ⟨l * (1 + (r : Int)) + e, P2, LV_oth hl hr he2, hp2, sSet_of ?_ (put_pl (c := c8) (ρ := EB c0 P2 c2 s l w (c8 :: cs)) rfl p8)⟩
  have a1 := mOp_of (f := dAdd) (a := oVal (mK (.int 1))) rfl (oVal_of e1) rfl rfl add_int
  have a2 := mOp_of (f := dMul) (a := oVar 4) (ρ := EB c0 P c2 s l w (c8 :: cs)) (o := .slot 4) rfl (oVal_of a1) rfl rfl (mul_int (LV_small hl))
  exact mOp_of (f := dAdd) (oVal_of a2) (oVal_of e2) rfl rfl add_int
def lvlD : D := .tup [.str "room", .str "level"]
def numD (x : Str) : D := .tup [.str "number", .str "level", .str x]
def faultD (l o : Int) : D := if barO l o = true then numD (sh o) else if lvB o = true then .non else lvlD
def foundD (l w s o : Int) : D := if barO l o = true then numD (sh o) else if lvB o = true then .tup [.str "ok", room o w s] else lvlD
theorem bar_no (h : barO l o = false) : decide ((10000 : Int) < o) = !lvB o := by
  unfold barO at h
  rw [Bool.or_eq_false_iff, decide_eq_false_iff_not] at h
  unfold lvB
  rw [decide_eq_true (show (1 : Int) ≤ o by omega), Bool.true_and]
  by_cases q : o ≤ 10000
  · rw [decide_eq_true q, decide_eq_false (by omega)]
    rfl
  · rw [decide_eq_false q, decide_eq_true (by omega)]
    rfl
theorem la9_ok (hl : 0 < l) (ho : okS o = true) (p9 : pc c9) : la9 CE (EB c0 P c2 s l w (.pl (.int o) :: c9 :: cs)) = .nx (EB c0 P c2 s l w (.pl (.int o) :: .pl (faultD l o) :: cs)) := by
  refine sSet_of (r := .pl (faultD l o)) (ρ1 := EB c0 P c2 s l w (.pl (.int o) :: c9 :: cs)) ?_ (put_pl (c := c9) rfl p9)
  have t1 : mtOr (mtB (mOp dLt (oVar 8) (oVal (mK (.int 1))))) (mtB (mOp dNe (oVal (mOp dMod (oVar 8) (oVar 4))) (oVal (mK (.int 0))))) (EB c0 P c2 s l w (.pl (.int o) :: c9 :: cs)) = .ok (barO l o) (EB c0 P c2 s l w (.pl (.int o) :: c9 :: cs)) :=
    mtOr_of (x := decide (o < 1)) (mtB_of (mOp_of (o := .slot 8) (p := .val (.int 1)) rfl rfl rfl rfl rfl)) (fun _ => mtB_of (mOp_of (oVal_of (mOp_of (o := .slot 8) (p := .slot 4) rfl rfl rfl rfl (mod_any hl))) rfl rfl rfl ne_int)) fun _ => rfl
  unfold faultD
  cases q : barO l o with
  | true =>
    rw [q] at t1
    rw [if_pos rfl]
    have r1 := mCall_of (f := dRepr) (args := mAc (oVar 8) mA0) (ρ := EB c0 P c2 s l w (.pl (.int o) :: c9 :: cs)) (os := [.slot 8]) (ds := [.int o]) rfl rfl (repr_int ho)
    refine mIf_t t1 ?_
    exact mTup_of (mAc_of (m := oVal (mK (.str "number"))) rfl (mAc_of (m := oVal (mK (.str "level"))) rfl (mAc_of (oVal_of r1) rfl))) rfl (show 3 ≤ 1000 by decide)
  | false =>
    rw [q] at t1
    rw [if_neg (by decide)]
    refine mIf_f t1 ?_
    have t2 : mtB (mOp dGt (oVar 8) (oVal (mK (.int 10000)))) (EB c0 P c2 s l w (.pl (.int o) :: c9 :: cs)) = .ok (decide ((10000 : Int) < o)) (EB c0 P c2 s l w (.pl (.int o) :: c9 :: cs)) := mtB_of (mOp_of (o := .slot 8) (p := .val (.int 10000)) rfl rfl rfl rfl rfl)
    rw [bar_no q] at t2
    cases q2 : lvB o with
    | true =>
      rw [q2] at t2
      rw [if_pos rfl]
      exact mIf_f t2 rfl
    | false =>
      rw [q2] at t2
      rw [if_neg (by decide)]
      exact mIf_t t2 rfl
/-- room_at(told[1], x) of the lap -/
abbrev mAt (i : Nat) : M := mCallP (df_room_at.drop 0) m_room_at (mAc (oVal (mOp dIx (oVar 7) (oVal (mK (.int 1))))) (mAc (oVal (mVar i)) mA0))
theorem at_args {i : Nat} {d : D} {cs : List Cell} (h : (EB c0 P c2 s l w cs)[i]? = some (.pl d)) : mAc (oVal (mOp dIx (oVar 7) (oVal (mK (.int 1))))) (mAc (oVal (mVar i)) mA0) (EB c0 P c2 s l w cs) = .ok [.val (room l w s), .val d] (EB c0 P c2 s l w cs) :=
  mAc_of (o := .val (room l w s)) rfl (mAc_of (oVal_of (mVar_pl h)) rfl)
theorem la10_ok (h : RoomOk l w s) (ho : okS o = true) (p10 : pc c10) : la10 CE (EB c0 P c2 s l w (.pl (.int o) :: c9 :: c10 :: cs)) = .nx (EB c0 P c2 s l w (.pl (.int o) :: c9 :: .pl (foundD l w s o) :: cs)) := by
  refine sSet_of (r := .pl (foundD l w s o)) (ρ1 := EB c0 P c2 s l w (.pl (.int o) :: c9 :: c10 :: cs)) ?_ (put_pl (c := c10) rfl p10)
  have e := f_at (o := o) h
  unfold foundD
  cases q : barO l o with
  | true =>
    rw [q, if_pos rfl] at e
    rw [if_pos rfl]
    exact mCaught_ex (k := 3) (m := mAt 8) rfl rfl rfl (mCallP_ex (dfl := []) (at_args (d := .int o) rfl) rfl e) (ct_num (reprD_int ho))
  | false =>
    rw [q, if_neg (by decide)] at e
    rw [if_neg (by decide)]
    cases q2 : lvB o with
    | true =>
      rw [q2, if_pos rfl] at e
      rw [if_pos rfl]
      exact mCaught_ok (k := 3) (m := mAt 8) rfl rfl rfl (mCallP_of (dfl := []) (at_args (d := .int o) rfl) rfl e)
    | false =>
      rw [q2, if_neg (by decide)] at e
      rw [if_neg (by decide)]
      exact mCaught_ex (k := 3) (m := mAt 8) rfl rfl rfl (mCallP_ex (dfl := []) (at_args (d := .int o) rfl) rfl e) (ct_room _)
end
end L2.MX.Lw
end
section
set_option Elab.async false
set_option linter.all false
set_option maxRecDepth 100000
namespace L2.MX.Lw
open PySem PySem.Spec PyProof.Rows
local instance tb10 : TabT := ⟨[], []⟩
theorem repr_of {d : D} {p : PyData} (h : toPy d = some p) (hs : showB p = true) : reprD d = some (.str p.shown) ∧ dRepr [d] = some (.pl (.str p.shown)) := by
  constructor
  · unfold reprD
    rw [h]
    show (if showB p = true then _ else _) = _
    rw [if_pos hs]
  · show (toPy d).bind _ = _
    rw [h]
    show (if showB p = true then _ else _) = _
    rw [if_pos hs]
theorem bad_repr {l : Int} (h : okS (-l) = true) {d : D} (hd : d ∈ badD l) : ∃ y, reprD d = some (.str y) ∧ dRepr [d] = some (.pl (.str y)) ∧ (PyData.str y).canLay0 = true := by
  simp only [badD, List.mem_cons, List.not_mem_nil, or_false] at hd
  have go : ∀ (e : D) (p : PyData), toPy e = some p → showB p = true → (PyData.str p.shown).canLay0 = true → ∃ y, reprD e = some (.str y) ∧ dRepr [e] = some (.pl (.str y)) ∧ (PyData.str y).canLay0 = true := fun e p h1 h2 h3 => ⟨p.shown, (repr_of h1 h2).1, (repr_of h1 h2).2, h3⟩
  rcases hd with rfl | rfl | rfl | rfl | rfl | rfl
  · exact go _ .none rfl (by decide +kernel) (by decide +kernel)
  · exact go _ (.bool true) rfl (by decide +kernel) (by decide +kernel)
  · exact go _ (.str "4") rfl (by decide +kernel) (by decide +kernel)
  · exact go _ (.tuple [.int 4]) rfl (by decide +kernel) (by decide +kernel)
  · exact go _ (.int 0) rfl (by decide +kernel) (by decide +kernel)
  · exact ⟨sh (-l), reprD_int h, repr_int h, okS_lay h⟩
theorem num_eq {y : Str} (h : (PyData.str y).canLay0 = true) : dNe (numD y) (numD y) = some (.pl (.bl false)) := ne_of_eqB (eq_s3 (by decide +kernel) (by decide +kernel) h)
theorem lvl_eq : dNe lvlD lvlD = some (.pl (.bl false)) := ne_of_eqB (eq_s2 (by decide +kernel) (by decide +kernel))
section
variable {CE : List (Str × Addr)} {c0 c2 : Cell} {P : D} {c : Nat} {s l w o : Int} {c8 c9 c10 c11 : Cell} {cs : List Cell}
abbrev EC (c0 : Cell) (P : D) (c2 : Cell) (s l w o : Int) (f g : D) (cs : List Cell) : Env := EB c0 P c2 s l w (.pl (.int o) :: .pl f :: .pl g :: cs)
theorem la11_dat {f : D} (h1 : dNotN f .non = some (.pl (.bl true))) (h2 : dIsN f .non = some (.pl (.bl false))) (h3 : dNe f f = some (.pl (.bl false))) (h4 : ∀ c fs ds, f ≠ .ins c fs ds) : la11 CE (EC c0 P c2 s l w o f f cs) = .nx (EC c0 P c2 s l w o f f cs) := by
  have t1 : mtB (mOp dNotN (oVar 9) (oVal (mK .non))) (EC c0 P c2 s l w o f f cs) = .ok true (EC c0 P c2 s l w o f f cs) := mtB_of (mOp_of (o := .slot 9) (p := .val .non) rfl rfl rfl rfl h1)
  have t2 : mtB (mEqO CL true eqs dNe (oVar 10) (oVar 9)) (EC c0 P c2 s l w o f f cs) = .ok false (EC c0 P c2 s l w o f f cs) := mtB_of (mEqO_dat (d := f) (e := f) (o := .slot 10) (p := .slot 9) rfl rfl rfl rfl h4 h3)
  have t3 : mtB (mOp dIsN (oVar 9) (oVal (mK .non))) (EC c0 P c2 s l w o f f cs) = .ok false (EC c0 P c2 s l w o f f cs) := mtB_of (mOp_of (o := .slot 9) (p := .val .non) rfl rfl rfl rfl h2)
  exact sIf_of (mtOr_f (mtAnd_t t1 t2) (mtAnd_f t3)) (fun z => by cases z) fun _ => rfl
theorem la11_rm (hs : s ∈ S16) (hd : dueF o w s = none) : la11 CE (EC c0 P c2 s l w o .non (.tup [.str "ok", room o w s]) cs) = .nx (EC c0 P c2 s l w o .non (.tup [.str "ok", room o w s]) cs) := by
  have t1 : mtB (mOp dNotN (oVar 9) (oVal (mK .non))) (EC c0 P c2 s l w o .non (.tup [.str "ok", room o w s]) cs) = .ok false (EC c0 P c2 s l w o .non (.tup [.str "ok", room o w s]) cs) := mtB_of (mOp_of (o := .slot 9) (p := .val .non) rfl rfl rfl rfl rfl)
  have t3 : mtB (mOp dIsN (oVar 9) (oVal (mK .non))) (EC c0 P c2 s l w o .non (.tup [.str "ok", room o w s]) cs) = .ok true (EC c0 P c2 s l w o .non (.tup [.str "ok", room o w s]) cs) := mtB_of (mOp_of (o := .slot 9) (p := .val .non) rfl rfl rfl rfl rfl)
  have t4 : mtB (mOp dNe (oVal (mOp dIx (oVar 10) (oVal (mK (.int 0))))) (oVal (mK (.str "ok")))) (EC c0 P c2 s l w o .non (.tup [.str "ok", room o w s]) cs) = .ok false (EC c0 P c2 s l w o .non (.tup [.str "ok", room o w s]) cs) := mtB_of (mOp_of (o := .val (.str "ok")) (p := .val (.str "ok")) rfl rfl rfl rfl ok_ne)
  have t5 : mtB (mEqO CL true eqs dNe (oVal (mOp dIx (oVar 10) (oVal (mK (.int 1))))) (oVal (mkR 8 5 3))) (EC c0 P c2 s l w o .non (.tup [.str "ok", room o w s]) cs) = .ok false (EC c0 P c2 s l w o .non (.tup [.str "ok", room o w s]) cs) := by
    have e := mEqO_ins (ne := true) (f := dNe) (ma := oVal (mOp dIx (oVar 10) (oVal (mK (.int 1))))) (mb := oVal (mkR 8 5 3)) (ρ := EC c0 P c2 s l w o .non (.tup [.str "ok", room o w s]) cs) (o := .val (room o w s)) (p := .val (room o w s)) (by rfl) (oVal_of (mk_ok hs rfl rfl rfl hd)) rfl rfl (by kernel_rfl) rfl f_eqR
    rw [dec3] at e
    exact mtB_of e
  exact sIf_of (mtOr_f (mtAnd_f t1) (mtAnd_t t3 (mtOr_f t4 t5))) (fun z => by cases z) fun _ => rfl
theorem la12_tail {f g : D} : mtB (mEqO CL false eqs dEq (oVal (mOp dIx (oVar 7) (oVal (mK (.int 1))))) (oVal (mTup (mAc (oVal (mVar 4)) (mAc (oVal (mVar 5)) (mAc (oVal (mVar 3)) mA0)))))) (EC c0 P c2 s l w o f g cs) = .ok false (EC c0 P c2 s l w o f g cs) :=
  mtB_of (mEqO_ins (ne := false) (f := dEq) (o := .val (room l w s)) (p := .val (.tup [.int l, .int w, .int s])) (by rfl) (by rfl) rfl rfl (by kernel_rfl) rfl f_eqT)
theorem la12_ne {f g : D} : mtB (mEqO CL true eqs dNe (oVar 8) (oVar 4)) (EC c0 P c2 s l w o f g cs) = .ok (!decide (o = l)) (EC c0 P c2 s l w o f g cs) := mtB_of (mEqO_dat (d := .int o) (e := .int l) (o := .slot 8) (p := .slot 4) rfl rfl rfl rfl (fun _ _ _ z => nomatch z) ne_int)
theorem la12_dat {f g : D} (h2 : dIsN f .non = some (.pl (.bl false))) : la12 CE (EC c0 P c2 s l w o f g cs) = .nx (EC c0 P c2 s l w o f g cs) := by
  have t3 : mtB (mOp dIsN (oVar 9) (oVal (mK .non))) (EC c0 P c2 s l w o f g cs) = .ok false (EC c0 P c2 s l w o f g cs) := mtB_of (mOp_of (o := .slot 9) (p := .val .non) rfl rfl rfl rfl h2)
  have t1 := la12_ne (c0 := c0) (P := P) (c2 := c2) (s := s) (l := l) (w := w) (o := o) (f := f) (g := g) (cs := cs)
  cases q : decide (o = l) with
  | true =>
    rw [q] at t1
    exact sIf_of (mtOr_f (mtAnd_f t1) la12_tail) (fun z => by cases z) fun _ => rfl
  | false =>
    rw [q] at t1
    exact sIf_of (mtOr_f (mtAnd_t t1 (mtAnd_f t3)) la12_tail) (fun z => by cases z) fun _ => rfl
theorem la12_rm : la12 CE (EC c0 P c2 s l w o .non (.tup [.str "ok", room o w s]) cs) = .nx (EC c0 P c2 s l w o .non (.tup [.str "ok", room o w s]) cs) := by
  have t3 : mtB (mOp dIsN (oVar 9) (oVal (mK .non))) (EC c0 P c2 s l w o .non (.tup [.str "ok", room o w s]) cs) = .ok true (EC c0 P c2 s l w o .non (.tup [.str "ok", room o w s]) cs) := mtB_of (mOp_of (o := .slot 9) (p := .val .non) rfl rfl rfl rfl rfl)
  have t1 := la12_ne (c0 := c0) (P := P) (c2 := c2) (s := s) (l := l) (w := w) (o := o) (f := .non) (g := .tup [.str "ok", room o w s]) (cs := cs)
  cases q : decide (o = l) with
  | true =>
    rw [q] at t1
    exact sIf_of (mtOr_f (mtAnd_f t1) la12_tail) (fun z => by cases z) fun _ => rfl
  | false =>
    rw [q] at t1
    have t5 : mtB (mEqO CL false eqs dEq (oVal (mOp dIx (oVar 10) (oVal (mK (.int 1))))) (oVal (mOp dIx (oVar 7) (oVal (mK (.int 1)))))) (EC c0 P c2 s l w o .non (.tup [.str "ok", room o w s]) cs) = .ok false (EC c0 P c2 s l w o .non (.tup [.str "ok", room o w s]) cs) := by
      have e := mEqO_ins (ne := false) (f := dEq) (ma := oVal (mOp dIx (oVar 10) (oVal (mK (.int 1))))) (mb := oVal (mOp dIx (oVar 7) (oVal (mK (.int 1))))) (ρ := EC c0 P c2 s l w o .non (.tup [.str "ok", room o w s]) cs) (o := .val (room o w s)) (p := .val (room l w s)) (by rfl) (by rfl) rfl rfl (by kernel_rfl) rfl f_eqR
      rw [q] at e
      exact mtB_of e
    exact sIf_of (mtOr_f (mtAnd_t t1 (mtAnd_t t3 t5)) la12_tail) (fun z => by cases z) fun _ => rfl
theorem la13_ok {f g : D} (hP : Pen c P) (hc : c ≤ 1000) (p11 : pc c11) : ∃ d P', d ∈ badD l ∧ Pen (c + 1) P' ∧ la13 CE (EC c0 P c2 s l w o f g (c11 :: cs)) = .nx (EC c0 P' c2 s l w o f g (.pl d :: cs)) := by
  obtain ⟨d, P', hd, hp, e⟩ := pk_of (ρ := EC c0 P c2 s l w o f g (c11 :: cs)) (xs := badD l) rfl (m := _) (by rfl) hP (by omega) (show 1 ≤ 6 by decide) (show 6 ≤ 1000000 by decide)
  exact ⟨d, P', hd, hp, sSet_of e (put_pl (c := c11) (ρ := EC c0 P' c2 s l w o f g (c11 :: cs)) rfl p11)⟩
theorem la14_ok {f g d : D} (h : RoomOk l w s) (hn : okS (-l) = true) (hd : d ∈ badD l) : la14 CE (EC c0 P c2 s l w o f g (.pl d :: cs)) = .nx (EC c0 P c2 s l w o f g (.pl d :: cs)) := by
  obtain ⟨y, r1, r2, r3⟩ := bad_repr hn hd
  have a1 : mCaught "ok" hs__law_complaint (lm_law CE) (oVal (mLam 2 (cloFrom CE (lam_2).scope.names []))) (EC c0 P c2 s l w o f g (.pl d :: cs)) = .ok (.pl (numD y)) (EC c0 P c2 s l w o f g (.pl d :: cs)) :=
    mCaught_ex (k := 2) (m := mAt 11) rfl rfl rfl (mCallP_ex (dfl := []) (at_args (d := d) rfl) rfl (f_bad h hd)) (ct_num r1)
  have a2 := mCall_of (f := dRepr) (args := mAc (oVar 11) mA0) (ρ := EC c0 P c2 s l w o f g (.pl d :: cs)) (os := [.slot 11]) (ds := [d]) rfl rfl r2
  have a3 := mTup_of (ds := [.str "number", .str "level", .str y]) (mAc_of (m := oVal (mK (.str "number"))) rfl (mAc_of (m := oVal (mK (.str "level"))) rfl (mAc_of (ms := mA0) (os := []) (oVal_of a2) rfl))) rfl (show 3 ≤ 1000 by decide)
  exact sIf_of (k := false) (mtB_of (mEqO_dat (d := numD y) (e := numD y) (oVal_of a1) (oVal_of a3) rfl rfl (fun _ _ _ z => nomatch z) (num_eq r3))) (fun z => by cases z) fun _ => rfl
end
end L2.MX.Lw
end
section
set_option Elab.async false
set_option linter.all false
set_option maxRecDepth 100000
namespace L2.MX.Lw
open PySem PySem.Spec PyProof.Rows
local instance tb11 : TabT := ⟨[], []⟩
theorem sSeq_ct {a b : MS} {ρ ρ1 : Env} (h : a ρ = .ct ρ1) : sSeq a b ρ = .ct ρ1 := by
  unfold sSeq
  rw [h]
/-- the env between two laps -/
abbrev EQ (c0 : Cell) (P : D) (c2 c3 c4 c5 c6 c7 c8 c9 c10 c11 : Cell) (cs : List Cell) : Env := c0 :: .ow P :: c2 :: c3 :: c4 :: c5 :: c6 :: c7 :: c8 :: c9 :: c10 :: c11 :: cs
def InvA (c : Nat) (c0 : Cell) (cs : List Cell) (ρ : Env) : Prop := ∃ P c2 c3 c4 c5 c6 c7 c8 c9 c10 c11, Pen c P ∧ pc c2 ∧ pc c3 ∧ pc c4 ∧ pc c5 ∧ pc c6 ∧ pc c7 ∧ pc c8 ∧ pc c9 ∧ pc c10 ∧ pc c11 ∧ ρ = EQ c0 P c2 c3 c4 c5 c6 c7 c8 c9 c10 c11 cs
theorem lapA_ok {CE : List (Str × Addr)} {c : Nat} {c0 : Cell} {cs : List Cell} {ρ : Env} (hc : c ≤ 900) (h : InvA c c0 cs ρ) : ∃ ρ', InvA (c + 10) c0 cs ρ' ∧ (lapA CE ρ = .nx ρ' ∨ lapA CE ρ = .ct ρ') := by
  obtain ⟨P, c2, c3, c4, c5, c6, c7, c8, c9, c10, c11, hP, p2, p3, p4, p5, p6, p7, p8, p9, p10, p11, rfl⟩ := h
  obtain ⟨s, P1, hs, h1, e0⟩ := la0_ok (CE := CE) (c0 := c0) (c2 := c2) (c3 := c3) (c4 := c4) (c5 := c5) (cs := c6 :: c7 :: c8 :: c9 :: c10 :: c11 :: cs) hP (by omega) p3
  obtain ⟨l0, P2, hl0, h2, e1⟩ := la1_ok (CE := CE) (c0 := c0) (c2 := c2) (c4 := c4) (c5 := c5) (cs := c6 :: c7 :: c8 :: c9 :: c10 :: c11 :: cs) (s := s) h1 (by omega) p4
  obtain ⟨w, P3, h3, e2⟩ := la2_ok (CE := CE) (c0 := c0) (c2 := c2) (c5 := c5) (cs := c6 :: c7 :: c8 :: c9 :: c10 :: c11 :: cs) (s := s) (l := l0) h2 (by omega) p5
  obtain ⟨l, P4, hl, h4, e3⟩ := la3_ok (CE := CE) (c0 := c0) (c2 := c2) (cs := c6 :: c7 :: c8 :: c9 :: c10 :: c11 :: cs) (w := w) h3 (by omega) hs hl0
  have e4 := la4_ok (CE := CE) (c0 := c0) (P := P4) (c2 := c2) (l := l) (w := w) (cs := c7 :: c8 :: c9 :: c10 :: c11 :: cs) hs p6
  have e5 := la5_ok (CE := CE) (c0 := c0) (P := P4) (c2 := c2) (l := l) (w := w) (c6 := .pl (dueD (dueF l w s))) (cs := c8 :: c9 :: c10 :: c11 :: cs) hs p7
  cases q : dueF l w s with
  | some x =>
    have e6 := la6_ct (CE := CE) (c0 := c0) (P := P4) (c2 := c2) (cs := c8 :: c9 :: c10 :: c11 :: cs) q
    exact ⟨_, ⟨P4, c2, _, _, _, _, _, c8, c9, c10, c11, h4.up (by omega), p2, pc_pl _, pc_pl _, pc_pl _, pc_pl _, pc_pl _, p8, p9, p10, p11, rfl⟩, .inr (sSeq_nx e0 (sSeq_nx e1 (sSeq_nx e2 (sSeq_nx e3 (sSeq_nx e4 (sSeq_nx e5 (sSeq_ct e6)))))))⟩
  | none =>
    have R : RoomOk l w s := ⟨q, hs⟩
    have e6 := la6_nx (CE := CE) (c0 := c0) (P := P4) (c2 := c2) (cs := c8 :: c9 :: c10 :: c11 :: cs) q
    have e7 := la7_ok (CE := CE) (c0 := c0) (P := P4) (c2 := c2) (cs := c8 :: c9 :: c10 :: c11 :: cs) R
    obtain ⟨o, P5, ho, h5, e8⟩ := la8_ok (CE := CE) (c0 := c0) (c2 := c2) (s := s) (w := w) (cs := c9 :: c10 :: c11 :: cs) h4 (by omega) hl p8
    have hl0 : 0 < l := by
      have := (lv_iff.mp (due_none q).1).1
      omega
    have e9 := la9_ok (CE := CE) (c0 := c0) (P := P5) (c2 := c2) (s := s) (w := w) (cs := c10 :: c11 :: cs) hl0 ho p9
    have e10 := la10_ok (CE := CE) (c0 := c0) (P := P5) (c2 := c2) (c9 := .pl (faultD l o)) (cs := c11 :: cs) R ho p10
    have e11 : la11 CE (EC c0 P5 c2 s l w o (faultD l o) (foundD l w s o) (c11 :: cs)) = .nx (EC c0 P5 c2 s l w o (faultD l o) (foundD l w s o) (c11 :: cs)) := by
      unfold faultD foundD
      cases q1 : barO l o with
      | true => exact la11_dat rfl rfl (num_eq (okS_lay ho)) (fun _ _ _ z => nomatch z)
      | false =>
        cases q2 : lvB o with
        | true => exact la11_rm hs (due_up R q1 q2)
        | false => exact la11_dat rfl rfl lvl_eq (fun _ _ _ z => nomatch z)
    have e12 : la12 CE (EC c0 P5 c2 s l w o (faultD l o) (foundD l w s o) (c11 :: cs)) = .nx (EC c0 P5 c2 s l w o (faultD l o) (foundD l w s o) (c11 :: cs)) := by
      unfold faultD foundD
      cases q1 : barO l o with
      | true => exact la12_dat rfl
      | false =>
        cases q2 : lvB o with
        | true => exact la12_rm
        | false => exact la12_dat rfl
    obtain ⟨d, P6, hd, h6, e13⟩ := la13_ok (CE := CE) (c0 := c0) (c2 := c2) (s := s) (l := l) (w := w) (o := o) (f := faultD l o) (g := foundD l w s o) (cs := cs) h5 (by omega) p11
    have e14 := la14_ok (CE := CE) (c0 := c0) (P := P6) (c2 := c2) (o := o) (f := faultD l o) (g := foundD l w s o) (cs := cs) R (LV_neg hl) hd
    exact ⟨_, ⟨P6, c2, _, _, _, _, _, _, _, _, _, h6.up (by omega), p2, pc_pl _, pc_pl _, pc_pl _, pc_pl _, pc_pl _, pc_pl _, pc_pl _, pc_pl _, pc_pl _, rfl⟩, .inl (sSeq_nx e0 (sSeq_nx e1 (sSeq_nx e2 (sSeq_nx e3 (sSeq_nx e4 (sSeq_nx e5 (sSeq_nx e6 (sSeq_nx e7 (sSeq_nx e8 (sSeq_nx e9 (sSeq_nx e10 (sSeq_nx e11 (sSeq_nx e12 (sSeq_nx e13 (sSeq_nx e14 rfl)))))))))))))))⟩
/-- the second loop's lap behind its draw -/
def wrongs : List D := [.non, .bl true, .str "1", .tup [.int 1]]
abbrev mR1 : M := mMake "Room" (df_Room_m___init__.drop 0) m_Room_m___init__ (mAc (oVal (mOp dIx (oVar 14) (oVal (mK (.int 0))))) (mAc (oVal (mOp dIx (oVar 14) (oVal (mK (.int 1))))) (mAc (oVal (mOp dIx (oVar 14) (oVal (mK (.int 2))))) mA0)))
abbrev mT1 : M := mTup (mAc (oVal (mK (.str "room"))) (mAc (oVal (mOp dIx (oVal (mTup (mAc (oVal (mK (.str "level"))) (mAc (oVal (mK (.str "weight"))) (mAc (oVal (mK (.str "sign"))) mA0))))) (oVar 12))) mA0))
section
variable {CE : List (Str × Addr)} {c0 c2 c3 c4 c5 c6 c7 c8 c9 c10 c11 c14 c15 : Cell} {P : D}
abbrev EW (c0 : Cell) (P : D) (c2 c3 c4 c5 c6 c7 c8 c9 c10 c11 : Cell) (j : Int) (d : D) (c14 c15 : Cell) : Env := EQ c0 P c2 c3 c4 c5 c6 c7 c8 c9 c10 c11 [.pl (.int j), .pl d, c14, c15]
theorem lb_go {j : Int} {d : D} (e : D) (x : Str) (p14 : c14 = .un ∨ ∃ e, c14 = .ow e) (h2 : lb2 CE (EW c0 P c2 c3 c4 c5 c6 c7 c8 c9 c10 c11 j d (.ow (.lst [.int 12, .int 2, .int 1])) c15) = .nx (EW c0 P c2 c3 c4 c5 c6 c7 c8 c9 c10 c11 j d (.ow e) c15)) (hm : mR1 (EW c0 P c2 c3 c4 c5 c6 c7 c8 c9 c10 c11 j d (.ow e) c15) = .ex (exR x) (EW c0 P c2 c3 c4 c5 c6 c7 c8 c9 c10 c11 j d (.ow e) c15))
    (ht : mT1 (EW c0 P c2 c3 c4 c5 c6 c7 c8 c9 c10 c11 j d (.ow e) c15) = .ok (.pl (.tup [.str "room", .str x])) (EW c0 P c2 c3 c4 c5 c6 c7 c8 c9 c10 c11 j d (.ow e) c15)) (hx : x = "level" ∨ x = "weight" ∨ x = "sign") :
    ∃ e, sSeq (lb1 CE) (sSeq (lb2 CE) (sSeq (lb3 CE) sNil)) (EW c0 P c2 c3 c4 c5 c6 c7 c8 c9 c10 c11 j d c14 c15) = .nx (EW c0 P c2 c3 c4 c5 c6 c7 c8 c9 c10 c11 j d (.ow e) c15) := by
  refine ⟨e, ?_⟩
  have h1 : lb1 CE (EW c0 P c2 c3 c4 c5 c6 c7 c8 c9 c10 c11 j d c14 c15) = .nx (EW c0 P c2 c3 c4 c5 c6 c7 c8 c9 c10 c11 j d (.ow (.lst [.int 12, .int 2, .int 1])) c15) := by
    rcases p14 with rfl | ⟨e, rfl⟩ <;> rfl
  refine sSeq_nx h1 (sSeq_nx h2 (sSeq_nx ?_ rfl))
  exact sIf_of (k := false) (mtB_of (mEqO_dat (d := .tup [.str "room", .str x]) (e := .tup [.str "room", .str x]) (oVal_of (mCaught_ex (k := 1) (m := mR1) rfl rfl rfl hm (ct_room x))) (oVal_of ht) rfl rfl (fun _ _ _ z => nomatch z) (ne_of_eqB (room_eq hx)))) (fun z => by cases z) fun _ => rfl
theorem lb_rest {d : D} {j : Nat} (hj : j < 3) (hd : d ∈ wrongs) (p14 : c14 = .un ∨ ∃ e, c14 = .ow e) :
    ∃ e, sSeq (lb1 CE) (sSeq (lb2 CE) (sSeq (lb3 CE) sNil)) (EW c0 P c2 c3 c4 c5 c6 c7 c8 c9 c10 c11 (j : Int) d c14 c15) = .nx (EW c0 P c2 c3 c4 c5 c6 c7 c8 c9 c10 c11 (j : Int) d (.ow e) c15) := by
  have hj : j = 0 ∨ j = 1 ∨ j = 2 := by omega
  simp only [wrongs, List.mem_cons, List.not_mem_nil, or_false] at hd
  rcases hj with rfl | rfl | rfl
  all_goals rcases hd with rfl | rfl | rfl | rfl
  · exact lb_go (.lst [.non, .int 2, .int 1]) "level" p14 (by kernel_rfl) (by kernel_rfl) (by kernel_rfl) (.inl rfl)
  · exact lb_go (.lst [.bl true, .int 2, .int 1]) "level" p14 (by kernel_rfl) (by kernel_rfl) (by kernel_rfl) (.inl rfl)
  · exact lb_go (.lst [.str "1", .int 2, .int 1]) "level" p14 (by kernel_rfl) (by kernel_rfl) (by kernel_rfl) (.inl rfl)
  · exact lb_go (.lst [.tup [.int 1], .int 2, .int 1]) "level" p14 (by kernel_rfl) (by kernel_rfl) (by kernel_rfl) (.inl rfl)
  · exact lb_go (.lst [.int 12, .non, .int 1]) "weight" p14 (by kernel_rfl) (by kernel_rfl) (by kernel_rfl) (.inr (.inl rfl))
  · exact lb_go (.lst [.int 12, .bl true, .int 1]) "weight" p14 (by kernel_rfl) (by kernel_rfl) (by kernel_rfl) (.inr (.inl rfl))
  · exact lb_go (.lst [.int 12, .str "1", .int 1]) "weight" p14 (by kernel_rfl) (by kernel_rfl) (by kernel_rfl) (.inr (.inl rfl))
  · exact lb_go (.lst [.int 12, .tup [.int 1], .int 1]) "weight" p14 (by kernel_rfl) (by kernel_rfl) (by kernel_rfl) (.inr (.inl rfl))
  · exact lb_go (.lst [.int 12, .int 2, .non]) "sign" p14 (by kernel_rfl) (by kernel_rfl) (by kernel_rfl) (.inr (.inr rfl))
  · exact lb_go (.lst [.int 12, .int 2, .bl true]) "sign" p14 (by kernel_rfl) (by kernel_rfl) (by kernel_rfl) (.inr (.inr rfl))
  · exact lb_go (.lst [.int 12, .int 2, .str "1"]) "sign" p14 (by kernel_rfl) (by kernel_rfl) (by kernel_rfl) (.inr (.inr rfl))
  · exact lb_go (.lst [.int 12, .int 2, .tup [.int 1]]) "sign" p14 (by kernel_rfl) (by kernel_rfl) (by kernel_rfl) (.inr (.inr rfl))
end
end L2.MX.Lw
end
section
set_option Elab.async false
set_option linter.all false
set_option maxRecDepth 100000
namespace L2.MX.Lw
open PySem PySem.Spec PyProof.Rows
local instance tb12 : TabT := ⟨[], []⟩
theorem loopA {CE : List (Str × Addr)} {c0 : Cell} {cs : List Cell} {ρ : Env} (h : InvA 0 c0 cs ρ) : ∃ ρ', loopF (gNm 2) (lapA CE) (rangeD 0 1 8) ρ = .nx ρ' ∧ InvA 80 c0 cs ρ' := by
  obtain ⟨ρ', e, hi⟩ := loopF_inv (g := gNm 2) (b := lapA CE) (fun j ρ => j ≤ 8 ∧ InvA (10 * j) c0 cs ρ) (rangeD 0 1 8) 0 ρ ⟨by omega, h⟩ (by
    rintro j d ρ hd ⟨hj, P, c2, c3, c4, c5, c6, c7, c8, c9, c10, c11, hP, p2, p3, p4, p5, p6, p7, p8, p9, p10, p11, rfl⟩
    have hj8 : j < 8 := by
      have := (List.getElem?_eq_some_iff.mp hd).1
      simpa [rangeD] using this
    obtain ⟨ρ', h1, h2⟩ := lapA_ok (CE := CE) (c := 10 * (0 + j)) (c0 := c0) (cs := cs) (ρ := EQ c0 P (.pl d) c3 c4 c5 c6 c7 c8 c9 c10 c11 cs) (by omega) ⟨P, .pl d, c3, c4, c5, c6, c7, c8, c9, c10, c11, hP, pc_pl _, p3, p4, p5, p6, p7, p8, p9, p10, p11, rfl⟩
    refine ⟨ρ', ⟨EQ c0 P (.pl d) c3 c4 c5 c6 c7 c8 c9 c10 c11 cs, put_pl (c := c2) rfl p2, h2⟩, by omega, ?_⟩
    rw [show 10 * (0 + j + 1) = 10 * (0 + j) + 10 by omega]
    exact h1)
  exact ⟨ρ', e, hi.2⟩
def InvB (c : Nat) (c0 : Cell) (ρ : Env) : Prop := ∃ P c2 c3 c4 c5 c6 c7 c8 c9 c10 c11 c12 c13 c14, Pen c P ∧ pc c12 ∧ pc c13 ∧ (c14 = .un ∨ ∃ e, c14 = .ow e) ∧ ρ = EQ c0 P c2 c3 c4 c5 c6 c7 c8 c9 c10 c11 [c12, c13, c14, .un]
theorem loopB {CE : List (Str × Addr)} {c0 : Cell} {ρ : Env} (h : InvB 80 c0 ρ) : ∃ ρ', loopF (gNm 12) (lapB CE) (rangeD 0 1 3) ρ = .nx ρ' ∧ InvB 83 c0 ρ' := by
  obtain ⟨ρ', e, hi⟩ := loopF_inv (g := gNm 12) (b := lapB CE) (fun j ρ => j ≤ 3 ∧ InvB (80 + j) c0 ρ) (rangeD 0 1 3) 0 ρ ⟨by omega, h⟩ (by
    rintro j d ρ hd ⟨hj, P, c2, c3, c4, c5, c6, c7, c8, c9, c10, c11, c12, c13, c14, hP, p12, p13, p14, rfl⟩
    have hj3 : j < 3 := by
      have := (List.getElem?_eq_some_iff.mp hd).1
      simpa [rangeD] using this
    have ed : d = .int (j : Int) := by
      unfold rangeD at hd
      rw [List.getElem?_map, List.getElem?_range (by omega)] at hd
      have := Option.some.inj hd
      rw [← this]
      show D.int (0 + (j : Int) * 1) = _
      rw [Int.mul_one, Int.zero_add]
    subst ed
    obtain ⟨w, P', hw, hp, e⟩ := pk_of (ρ := EQ c0 P c2 c3 c4 c5 c6 c7 c8 c9 c10 c11 [.pl (.int (j : Int)), c13, c14, .un]) (xs := wrongs) rfl (m := _) (by rfl) hP (by omega) (show 1 ≤ 4 by decide) (show 4 ≤ 1000000 by decide)
    obtain ⟨x, e2⟩ := lb_rest (CE := CE) (c0 := c0) (P := P') (c2 := c2) (c3 := c3) (c4 := c4) (c5 := c5) (c6 := c6) (c7 := c7) (c8 := c8) (c9 := c9) (c10 := c10) (c11 := c11) (c15 := .un) hj3 hw p14
    refine ⟨EQ c0 P' c2 c3 c4 c5 c6 c7 c8 c9 c10 c11 [.pl (.int (j : Int)), .pl w, .ow x, .un], ⟨EQ c0 P c2 c3 c4 c5 c6 c7 c8 c9 c10 c11 [.pl (.int (j : Int)), c13, c14, .un], put_pl (c := c12) rfl p12, .inl ?_⟩, by omega, ?_⟩
    · exact sSeq_nx (sSet_of e (put_pl (c := c13) (ρ := EQ c0 P' c2 c3 c4 c5 c6 c7 c8 c9 c10 c11 [.pl (.int (j : Int)), c13, c14, .un]) rfl p13)) e2
    · exact ⟨P', c2, c3, c4, c5, c6, c7, c8, c9, c10, c11, _, _, _, hp.up (by omega), pc_pl _, pc_pl _, .inr ⟨x, rfl⟩, rfl⟩)
  exact ⟨ρ', e, hi.2⟩
def odds : List D := [.non, .tup [.int 12, .int 2, .int 1], .int 12]
theorem odd_repr {d : D} (hd : d ∈ odds) : ∃ y, reprD d = some (.str y) ∧ dRepr [d] = some (.pl (.str y)) ∧ (PyData.str y).canLay0 = true ∧ m_room_at [.pl d, .pl .non] = .ex (exI d) [.un, .un] := by
  simp only [odds, List.mem_cons, List.not_mem_nil, or_false] at hd
  have go : ∀ (e : D) (p : PyData), toPy e = some p → showB p = true → (PyData.str p.shown).canLay0 = true → m_room_at [.pl e, .pl .non] = .ex (exI e) [.un, .un] → ∃ y, reprD e = some (.str y) ∧ dRepr [e] = some (.pl (.str y)) ∧ (PyData.str y).canLay0 = true ∧ m_room_at [.pl e, .pl .non] = .ex (exI e) [.un, .un] := fun e p h1 h2 h3 h4 => ⟨p.shown, (repr_of h1 h2).1, (repr_of h1 h2).2, h3, h4⟩
  rcases hd with rfl | rfl | rfl
  · exact go _ .none rfl (by decide +kernel) (by decide +kernel) (by kernel_rfl)
  · exact go _ (.tuple [.int 12, .int 2, .int 1]) rfl (by decide +kernel) (by decide +kernel) (by kernel_rfl)
  · exact go _ (.int 12) rfl (by decide +kernel) (by decide +kernel) (by kernel_rfl)
theorem item_eq {y : Str} (h : (PyData.str y).canLay0 = true) : dEq (.tup [.str "item", .str y]) (.tup [.str "item", .str y]) = some (.pl (.bl true)) := by
  unfold dEq
  rw [eq_s2 (by decide +kernel) h]
  rfl
abbrev mOdd : M := mCallP (df_room_at.drop 0) m_room_at (mAc (oVal (mVar 15)) (mAc (oVal (mK .non)) mA0))
theorem lw4_ok {CE : List (Str × Addr)} {ρ : Env} {d : D} (h : ρ[15]? = some (.pl d)) (hd : d ∈ odds) : lw4 CE ρ = .rt (.pl (.bl true)) ρ := by
  obtain ⟨y, r1, r2, r3, r4⟩ := odd_repr hd
  have a0 : mOdd ρ = .ex (exI d) ρ := mCallP_ex (dfl := []) (os := [.val d, .val .non]) (mAc_of (oVal_of (mVar_pl h)) rfl) rfl r4
  have a1 : mCaught "ok" hs__law_complaint (lm_law CE) (oVal (mLam 0 (cloFrom CE (lam_0).scope.names []))) ρ = .ok (.pl (.tup [.str "item", .str y])) ρ := mCaught_ex (k := 0) (m := mOdd) rfl rfl rfl a0 (ct_item r1)
  have a2 := mCall_of (f := dRepr) (args := mAc (oVar 15) mA0) (ρ := ρ) (os := [.slot 15]) (ds := [d]) (mAc_of (oVar_pl h) rfl) (by
    show ((Opd.slot 15).get ρ).bind _ = _
    rw [get_slot h]
    rfl) r2
  have a3 := mTup_of (ds := [.str "item", .str y]) (mAc_of (m := oVal (mK (.str "item"))) rfl (mAc_of (ms := mA0) (os := []) (oVal_of a2) rfl)) rfl (show 2 ≤ 1000 by decide)
  exact sRet_of (mEqO_dat (d := .tup [.str "item", .str y]) (e := .tup [.str "item", .str y]) (oVal_of a1) (oVal_of a3) rfl rfl (fun _ _ _ z => nomatch z) (item_eq r3))
theorem law_true : ∀ (cl : List (Str × Addr)) (ns : List Int), ns.length ≤ 63 → ∃ outs, m_law cl [.pl (.flst (ns.map .int))] = .rt (.pl (.bl true)) outs := by
  intro cl ns _
  obtain ⟨P, hP, eP⟩ := f_pen ns
  have e0 : lw0 cl (([.pl (.flst (ns.map .int))] : Env) ++ List.replicate 15 .un) = .nx (EQ (.pl (.flst (ns.map .int))) P .un .un .un .un .un .un .un .un .un .un [.un, .un, .un, .un]) :=
    sSet_of (r := .fr P) (ρ1 := ([.pl (.flst (ns.map .int))] : Env) ++ List.replicate 15 .un) (mCallP_of (dfl := []) (os := [.val (.flst (ns.map .int))]) rfl rfl eP) rfl
  obtain ⟨ρ1, e1, P1, c2, c3, c4, c5, c6, c7, c8, c9, c10, c11, hP1, q2, q3, q4, q5, q6, q7, q8, q9, q10, q11, rfl⟩ := loopA (CE := cl) (c0 := .pl (.flst (ns.map .int))) (cs := [.un, .un, .un, .un]) (ρ := EQ (.pl (.flst (ns.map .int))) P .un .un .un .un .un .un .un .un .un .un [.un, .un, .un, .un]) ⟨P, _, _, _, _, _, _, _, _, _, _, hP, pc_un, pc_un, pc_un, pc_un, pc_un, pc_un, pc_un, pc_un, pc_un, pc_un, rfl⟩
  obtain ⟨ρ2, e2, P2, d2, d3, d4, d5, d6, d7, d8, d9, d10, d11, d12, d13, d14, hP2, _, _, _, rfl⟩ := loopB (CE := cl) (c0 := .pl (.flst (ns.map .int))) (ρ := EQ (.pl (.flst (ns.map .int))) P1 c2 c3 c4 c5 c6 c7 c8 c9 c10 c11 [.un, .un, .un, .un]) ⟨P1, c2, c3, c4, c5, c6, c7, c8, c9, c10, c11, .un, .un, .un, hP1, pc_un, pc_un, .inl rfl, rfl⟩
  obtain ⟨x, P3, hx, hP3, e3⟩ := pk_of (ρ := EQ (.pl (.flst (ns.map .int))) P2 d2 d3 d4 d5 d6 d7 d8 d9 d10 d11 [d12, d13, d14, .un]) (xs := odds) rfl (m := _) (by rfl) hP2 (by omega) (show 1 ≤ 3 by decide) (show 3 ≤ 1000000 by decide)
  have f1 : lw1 cl (EQ (.pl (.flst (ns.map .int))) P .un .un .un .un .un .un .un .un .un .un [.un, .un, .un, .un]) = .nx (EQ (.pl (.flst (ns.map .int))) P1 c2 c3 c4 c5 c6 c7 c8 c9 c10 c11 [.un, .un, .un, .un]) := sFor_of (iR1_of (j := 8) (os := [.val (.int 8)]) rfl rfl (by decide)) e1
  have f2 : lw2 cl (EQ (.pl (.flst (ns.map .int))) P1 c2 c3 c4 c5 c6 c7 c8 c9 c10 c11 [.un, .un, .un, .un]) = .nx (EQ (.pl (.flst (ns.map .int))) P2 d2 d3 d4 d5 d6 d7 d8 d9 d10 d11 [d12, d13, d14, .un]) := sFor_of (iR1_of (j := 3) (os := [.val (.int 3)]) rfl rfl (by decide)) e2
  have f3 : lw3 cl (EQ (.pl (.flst (ns.map .int))) P2 d2 d3 d4 d5 d6 d7 d8 d9 d10 d11 [d12, d13, d14, .un]) = .nx (EQ (.pl (.flst (ns.map .int))) P3 d2 d3 d4 d5 d6 d7 d8 d9 d10 d11 [d12, d13, d14, .pl x]) := sSet_of e3 (put_pl (c := .un) (ρ := EQ (.pl (.flst (ns.map .int))) P3 d2 d3 d4 d5 d6 d7 d8 d9 d10 d11 [d12, d13, d14, .un]) rfl pc_un)
  have f4 := lw4_ok (CE := cl) (ρ := EQ (.pl (.flst (ns.map .int))) P3 d2 d3 d4 d5 d6 d7 d8 d9 d10 d11 [d12, d13, d14, .pl x]) rfl hx
  have f5 := sSeq_nx e0 (sSeq_nx f1 (sSeq_nx f2 (sSeq_nx f3 (sSeq_rt (b := sNil) f4))))
  rw [← b_law_eq] at f5
  exact ⟨_, mDef_rt f5⟩
end L2.MX.Lw
end
set_option maxRecDepth 100000
set_option maxHeartbeats 4000000
open PySem PySem.W PySem.Calls PyProof.Rows
theorem PySem.Challenge.cw_productrows_k05_whole_rooms_holds : PySem.Challenge.rw_productrows_k05_whole_rooms.Holds := by
  w_on; o_law
  refine HandSHeadRun.head_any (r := L2.MX.Lw.R) (q := view L2.MX.Lw.R.prog [28]) (H := L2.MX.Lw.hk) (ob := L2.MX.Lw.ob) (M := 2140) (loose := L2.MX.Lw.ls0) (d := HandSHeadRun.topDef L2.MX.Lw.R.prog 28) (kwd := []) L2.MX.Lw.ob_eq
    (by kernel_rfl) (fun s => by kernel_rfl) L2.MX.Lw.run (by kernel_rfl) (by kernel_rfl) (by kernel_rfl) (by rfl) (by first | assumption | decide +kernel) (by decide +kernel) ⟨rfl, rfl, rfl, rfl, rfl, by decide +kernel⟩ ?hw ?hc
  case hw => w_witness2
  case hc =>
    refine L2.MX.walk_G (l := PySem.Challenge.rw_productrows_k05_whole_rooms) (n := 63) (k := 8) (x := "script") rfl (by decide) (by kernel_rfl) ⟨rfl, by decide, by decide⟩ ?F
    intro w mg fa h Y G hmg0
    obtain ⟨K, KX, c⟩ := Y
    have hmg : mg ("law" : PySem.Str) = some (.ref fa) := by
      have e : (HandSHeadRun.topDef L2.MX.Lw.R.prog 28).name = ("law" : PySem.Str) := by kernel_rfl
      rw [← e]
      exact hmg0
    have gl : mg "law" = some (.ref (He.ga K "law")) := He.glo_ok KX G (c.d.fact 26 (f := .glo "law") rfl)
    obtain rfl := L2.MX.ref_inj gl hmg
    obtain ⟨fd, F⟩ := c.d.def_ 18 (d := L2.MX.Lw.h_law) rfl
    letI : L2.MX.TabT := L2.MX.Lw.tbOf K
    exact ⟨K, KX, fd, L2.MX.Lw.tf.map (He.cT K), L2.MX.spMC K L2.MX.Lw.m_law, fun p hp => by
      obtain ⟨q, hq, rfl⟩ := List.mem_map.mp hp
      exact c.empty q hq, fun p hp => by
      obtain ⟨q, hq, rfl⟩ := List.mem_map.mp hp
      exact c.out q hq, fun p hp => by
      obtain ⟨q, hq, rfl⟩ := List.mem_map.mp hp
      exact codeHd_of_K KX (c.hd q hq), fun s u => L2.FunD.bindsA (ps := ["script"]) F (fun _ _ _ _ _ _ us hl => match us, hl with | [_], _ => rfl) s [u] rfl,
      L2.MX.law_spG (L2.MX.Lw.tb_in K) L2.MX.Lw.law_true,
      fun base KB GB hT => L2.MX.Lw.ok_law (L2.MX.Lw.facts KX G c (fun q hq => hT _ (List.mem_map_of_mem hq))) F⟩
