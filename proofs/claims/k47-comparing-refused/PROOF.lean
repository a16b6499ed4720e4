import PyProof.Rows.All
import Wide.All
import OpenK.AllK
import Wide.FinOn
import KE.KStateDown
import Lean
import HandS.ForMost
import HandS.WordsExc
import HandS.Exc
import HandS.TryOnly
import HandS.Defaults
import HandS.IsInst
import KE.GoesEnum
import KE.GoesMore
import HandS.Strs
import HandS.DictComp
import KE.KDictKeyed
import KE.KeyNested
import HandS.ExcInit
import HandS.ExcIs
import HandS.ExcField
import HandS.Lambda
import HandS.EndBits
import HandS.EndTab
import HandS.HeadHook4
import HandS.HeadWalk
import HandS.Property
import HandS.TupAny
import HandS.Style
import HandS.Wide
import HandS.NamedTupGet
import HandS.Text
import HandS.Head0
import HandS.Head1
import HandS.Head2
import HandS.HeadEnd
import PySem.Challenge.RW_latekeepers_k47_comparing_refused
set_option Elab.async false
set_option linter.all false
set_option maxRecDepth 100000
set_option maxHeartbeats 1000000
/-! LK0: data told in a frozen part F of the abstract heap H; what an expression's reading gives, by the slots' descriptions. -/
namespace LK
open PySem PySem.Spec PyProof.Rows L2

/-! ### the frozen part -/
def Sub (F H : Hp) : Prop := ∀ a o, F a = some o → H a = some o
theorem Sub.refl (H : Hp) : Sub H H := fun _ _ h => h
theorem Sub.trans {A B C : Hp} (x : Sub A B) (y : Sub B C) : Sub A C := fun a o h => y a o (x a o h)
theorem Sub.new {H : Hp} {p : Addr} {o : HO} (h : H p = none) : Sub H (upd H p o) := fun a u e => by
  rw [upd_ne (ne_of_none e h)]
  exact e
theorem Sub.none {F H : Hp} {p : Addr} (s : Sub F H) (h : H p = none) : F p = none := by
  cases q : F p with
  | none => rfl
  | some o => rw [s p o q] at h; cases h
theorem Sub.upd2 {F H : Hp} {p : Addr} {o : HO} (s : Sub F H) : Sub (upd F p o) (upd H p o) := fun a u e => by
  by_cases h : a = p
  · subst h
    rw [upd_same] at e ⊢
    exact e
  · rw [upd_ne h] at e ⊢
    exact s a u e
/-- an object that F does not hold is changed -/
theorem Sub.mut {F H : Hp} {p : Addr} {o : HO} (s : Sub F H) (h : F p = Option.none) : Sub F (upd H p o) := fun a u e => by
  rw [upd_ne (ne_of_none e h)]
  exact s a u e

/-- no code object's table is frozen -/
def NoTb (F : Hp) : Prop := ∀ a ps, F a ≠ some (.tbl ps)
theorem NoTb.upd {F : Hp} {p : Addr} {o : HO} (h : NoTb F) (ho : ∀ ps, o ≠ .tbl ps) : NoTb (upd F p o) := fun a ps z => by
  by_cases e : a = p
  · rw [e, upd_same] at z; exact ho ps (Option.some.inj z)
  · rw [upd_ne e] at z; exact h a ps z
/-- from (F, H) to (F', H'): all but S stays, what was not frozen is not frozen -/
structure Fr (S : Addr → Prop) (F H F' H' : Hp) : Prop where
  f : Sub F F'
  s : Sub F' H'
  h : ∀ a o, H a = some o → ¬ S a → H' a = some o
  n : ∀ a o, H a = some o → F a = none → F' a = none
  g : ∀ a o, H a = some o → ∃ o', H' a = some o'
  t : NoTb F → NoTb F'
abbrev S0 : Addr → Prop := fun _ => False
abbrev Le := Fr S0
section
variable {S T : Addr → Prop} {F H F1 H1 F2 H2 : Hp}
theorem Fr.refl (s : Sub F H) : Fr S F H F H := ⟨Sub.refl F, s, fun _ _ e _ => e, fun _ _ _ e => e, fun _ o e => ⟨o, e⟩, fun z => z⟩
theorem Fr.trans (x : Fr S F H F1 H1) (y : Fr S F1 H1 F2 H2) : Fr S F H F2 H2 :=
  ⟨x.f.trans y.f, y.s, fun a o e n => y.h a o (x.h a o e n) n, fun a o e n => by
    obtain ⟨o', e'⟩ := x.g a o e
    exact y.n a o' e' (x.n a o e n), fun a o e => by
    obtain ⟨o', e'⟩ := x.g a o e
    exact y.g a o' e', fun z => y.t (x.t z)⟩
theorem Fr.weak (x : Fr S F H F1 H1) (h : ∀ a, S a → T a) : Fr T F H F1 H1 := ⟨x.f, x.s, fun a o e n => x.h a o e (fun z => n (h a z)), x.n, x.g, x.t⟩
theorem Fr.up (x : Le F H F1 H1) : Fr T F H F1 H1 := x.weak fun _ z => z.elim
theorem Le.sub (x : Le F H F1 H1) : Sub H H1 := fun a o e => x.h a o e (fun z => z)
/-- new frozen object -/
theorem Le.new {p : Addr} {o : HO} (s : Sub F H) (h : H p = none) (ho : ∀ ps, o ≠ .tbl ps := by intro _ z; cases z) : Le F H (upd F p o) (upd H p o) :=
  ⟨Sub.new (s.none h), s.upd2, fun a u e _ => Sub.new h a u e, fun a u e n => by rw [upd_ne (ne_of_none e h)]; exact n, fun a u e => ⟨u, Sub.new h a u e⟩, fun z => z.upd ho⟩
/-- new object, not frozen -/
theorem Le.newM {p : Addr} {o : HO} (s : Sub F H) (h : H p = none) : Le F H F (upd H p o) :=
  ⟨Sub.refl F, s.mut (s.none h), fun a u e _ => Sub.new h a u e, fun a u e n => n, fun a u e => ⟨u, Sub.new h a u e⟩, fun z => z⟩
/-- an object of S, not frozen, is changed -/
theorem Fr.mut {p : Addr} {o : HO} (s : Sub F H) (hf : F p = none) (hS : S p) : Fr S F H F (upd H p o) :=
  ⟨Sub.refl F, s.mut hf, fun a u e n => by rw [upd_ne (fun z => n (by rw [z]; exact hS))]; exact e, fun _ _ _ n => n, fun a u e => by
    by_cases h : a = p
    · exact ⟨o, by rw [h, upd_same]⟩
    · exact ⟨u, by rw [upd_ne h]; exact e⟩, fun z => z⟩
/-- an object is frozen from now on -/
theorem Le.freeze {p : Addr} {o : HO} (s : Sub F H) (h : H p = some o) : Sub (upd F p o) H := fun a u e => by
  by_cases hp : a = p
  · subst hp
    rw [upd_same] at e
    rw [← e]
    exact h
  · rw [upd_ne hp] at e
    exact s a u e
end

theorem rd_sub {F F' : Hp} {a : Addr} {u : HO} (e : Sub F F') (h : Rd F a u) : Rd F' a u := by
  rcases h with h | ⟨o, h⟩
  · exact Or.inl (e a _ h)
  · exact Or.inr ⟨o, e a _ h⟩
theorem sql_sub {K : PySem.W.Frag} {F F' : Hp} {a : Addr} {xs : List V} (e : Sub F F') (h : SqL K F a xs) : SqL K F' a xs := by
  rcases h with h | h
  · exact Or.inl (rd_sub e h)
  · exact Or.inr h
theorem sqt_sub {K : PySem.W.Frag} {F F' : Hp} {a : Addr} {xs : List V} (e : Sub F F') (h : SqT K F a xs) : SqT K F' a xs := by
  rcases h with h | h
  · exact Or.inl (rd_sub e h)
  · exact Or.inr h

/-! ### data -/
def keyD : Key → PyData
  | .inl i => .int i
  | .inr x => .str x
mutual
/-- the value is the data, read off the frozen part -/
inductive Dat (K : PySem.W.Frag) (F : Hp) : PyData → V → Prop
  | non : Dat K F .none .non
  | bl (b : Bool) : Dat K F (.bool b) (.bl b)
  | int (i : Int) : Dat K F (.int i) (.int i)
  | str (x : Str) : Dat K F (.str x) (.str x)
  | lst {a : Addr} {xs : List V} {ds : List PyData} : SqL K F a xs → DatA K F ds xs → Dat K F (.list ds) (.ref a)
  | tup {a : Addr} {xs : List V} {ds : List PyData} : SqT K F a xs → DatA K F ds xs → Dat K F (.tuple ds) (.ref a)
  | dic {a : Addr} {kvs : List (Key × V)} {ds : List (PyData × PyData)} : F a = some (.dK kvs) → ds.map (·.1) = kvs.map (fun p => keyD p.1) → DatA K F (ds.map (·.2)) (kvs.map (·.2)) → Dat K F (.dict ds) (.ref a)
inductive DatA (K : PySem.W.Frag) (F : Hp) : List PyData → List V → Prop
  | nil : DatA K F [] []
  | cons {v : V} {vs : List V} {d : PyData} {ds : List PyData} : Dat K F d v → DatA K F ds vs → DatA K F (d :: ds) (v :: vs)
end
section
variable {K : PySem.W.Frag} {F F' : Hp}
mutual
theorem Dat.mono (e : Sub F F') : ∀ {d : PyData} {v : V}, Dat K F d v → Dat K F' d v
  | _, _, .non => .non
  | _, _, .bl b => .bl b
  | _, _, .int i => .int i
  | _, _, .str x => .str x
  | _, _, .lst h a => .lst (sql_sub e h) (DatA.mono e a)
  | _, _, .tup h a => .tup (sqt_sub e h) (DatA.mono e a)
  | _, _, .dic h k a => .dic (e _ _ h) k (DatA.mono e a)
theorem DatA.mono (e : Sub F F') : ∀ {ds : List PyData} {vs : List V}, DatA K F ds vs → DatA K F' ds vs
  | _, _, .nil => .nil
  | _, _, .cons h t => .cons (Dat.mono e h) (DatA.mono e t)
end
theorem DatA.length : ∀ {ds : List PyData} {vs : List V}, DatA K F ds vs → ds.length = vs.length
  | _, _, .nil => rfl
  | _, _, .cons _ t => congrArg Nat.succ (DatA.length t)
theorem DatA.get : ∀ {ds : List PyData} {vs : List V} {i : Nat} {v : V}, DatA K F ds vs → vs[i]? = some v → ∃ d, ds[i]? = some d ∧ Dat K F d v
  | _, _, _, _, .nil, e => by simp at e
  | _, _, 0, _, .cons h _, e => by simp at e; subst e; exact ⟨_, rfl, h⟩
  | _, _, i + 1, v, .cons _ t, e => by
    obtain ⟨d, h1, h2⟩ := DatA.get (i := i) (v := v) t (by simpa using e)
    exact ⟨d, by simpa using h1, h2⟩
theorem DatA.getD : ∀ {ds : List PyData} {vs : List V} {i : Nat} {d : PyData}, DatA K F ds vs → ds[i]? = some d → ∃ v, vs[i]? = some v ∧ Dat K F d v
  | _, _, _, _, .nil, e => by simp at e
  | _, _, 0, _, .cons h _, e => by simp at e; subst e; exact ⟨_, rfl, h⟩
  | _, _, i + 1, d, .cons _ t, e => by
    obtain ⟨v, h1, h2⟩ := DatA.getD (i := i) (d := d) t (by simpa using e)
    exact ⟨v, by simpa using h1, h2⟩
theorem DatA.app : ∀ {ds es : List PyData} {vs ws : List V}, DatA K F ds vs → DatA K F es ws → DatA K F (ds ++ es) (vs ++ ws)
  | _, _, _, _, .nil, s => s
  | _, _, _, _, .cons r t, s => .cons r (DatA.app t s)
theorem DatA.take : ∀ {ds : List PyData} {vs : List V} (n : Nat), DatA K F ds vs → DatA K F (ds.take n) (vs.take n)
  | _, _, 0, _ => .nil
  | _, _, _ + 1, .nil => .nil
  | _, _, n + 1, .cons r t => .cons r (DatA.take n t)
theorem DatA.drop : ∀ {ds : List PyData} {vs : List V} (n : Nat), DatA K F ds vs → DatA K F (ds.drop n) (vs.drop n)
  | _, _, 0, r => r
  | _, _, _ + 1, .nil => .nil
  | _, _, n + 1, .cons _ t => DatA.drop n t
theorem DatA.rev {ds : List PyData} {vs : List V} (h : DatA K F ds vs) : DatA K F ds.reverse vs.reverse := by
  induction ds generalizing vs with
  | nil => cases h; exact .nil
  | cons d ds ih =>
    cases h with
    | cons h t =>
      rw [List.reverse_cons, List.reverse_cons]
      exact (ih t).app (.cons h .nil)
theorem DatA.strs : ∀ {xs : List Str} {vs : List V}, DatA K F (xs.map PyData.str) vs → vs = xs.map V.str
  | [], _, .nil => rfl
  | x :: xs, _, .cons h t => by
    cases h
    rw [DatA.strs t]
    rfl
theorem DatA.ofStrs : ∀ (xs : List Str), DatA K F (xs.map PyData.str) (xs.map V.str)
  | [] => .nil
  | x :: xs => .cons (.str x) (DatA.ofStrs xs)
theorem DatA.ints : ∀ {xs : List Int} {vs : List V}, DatA K F (xs.map PyData.int) vs → vs = xs.map V.int
  | [], _, .nil => rfl
  | x :: xs, _, .cons h t => by
    cases h
    rw [DatA.ints t]
    rfl
theorem DatA.ofInts : ∀ (xs : List Int), DatA K F (xs.map PyData.int) (xs.map V.int)
  | [] => .nil
  | x :: xs => .cons (.int x) (DatA.ofInts xs)
theorem DatA.bools : ∀ {xs : List Bool} {vs : List V}, DatA K F (xs.map PyData.bool) vs → vs = xs.map V.bl
  | [], _, .nil => rfl
  | x :: xs, _, .cons h t => by
    cases h
    rw [DatA.bools t]
    rfl
theorem DatA.ofBools : ∀ (xs : List Bool), DatA K F (xs.map PyData.bool) (xs.map V.bl)
  | [] => .nil
  | x :: xs => .cons (.bl x) (DatA.ofBools xs)
end

/-! ### what slots hold -/
/-- a description of a value, that stays true as the frozen part grows -/
structure MP where
  R : Hp → V → Prop
  mono : ∀ {F F' : Hp} {v : V}, Sub F F' → R F v → R F' v
/-- the data d -/
def MP.d (K : PySem.W.Frag) (d : PyData) : MP := ⟨fun F v => Dat K F d v, fun e h => h.mono e⟩
/-- this very value -/
def MP.v (v : V) : MP := ⟨fun _ u => u = v, fun _ h => h⟩
def MP.any : MP := ⟨fun _ _ => True, fun _ _ => trivial⟩
/-- some data of which P holds -/
def MP.e (K : PySem.W.Frag) (P : PyData → Prop) : MP := ⟨fun F v => ∃ d, P d ∧ Dat K F d v, fun e ⟨d, p, h⟩ => ⟨d, p, h.mono e⟩⟩
abbrev Ro := List (Option MP)
structure SlOk (F : Hp) (σ : L2.St) (ρ : Ro) : Prop where
  len : σ.length = ρ.length
  at_ : ∀ (i : Nat) (m : MP), ρ[i]? = some (some m) → ∃ v, σ[i]? = some (some v) ∧ m.R F v
section
variable {F F' : Hp} {σ : L2.St} {ρ : Ro}
theorem SlOk.mono (h : SlOk F σ ρ) (e : Sub F F') : SlOk F' σ ρ := ⟨h.len, fun i m q => by
  obtain ⟨v, a, b⟩ := h.at_ i m q
  exact ⟨v, a, m.mono e b⟩⟩
theorem SlOk.set (h : SlOk F σ ρ) {m : MP} {v : V} (i : Nat) (r : m.R F v) : SlOk F (σ.set i (some v)) (ρ.set i (some m)) := ⟨by simpa using h.len, fun j m' q => by
  by_cases hj : j = i
  · subst hj
    by_cases hl : j < ρ.length
    · rw [List.getElem?_set_self hl] at q
      cases q
      exact ⟨v, List.getElem?_set_self (by rw [h.len]; exact hl), r⟩
    · rw [List.getElem?_eq_none (by simpa using hl)] at q
      cases q
  · rw [List.getElem?_set_ne (Ne.symm hj)] at q
    obtain ⟨u, a, b⟩ := h.at_ j m' q
    exact ⟨u, by rw [List.getElem?_set_ne (Ne.symm hj)]; exact a, b⟩⟩
/-- a slot forgotten (in σ, in ρ) -/
theorem SlOk.setN (h : SlOk F σ ρ) (i : Nat) (x : Option V) : SlOk F (σ.set i x) (ρ.set i none) := ⟨by simpa using h.len, fun j m' q => by
  by_cases hj : j = i
  · subst hj
    by_cases hl : j < ρ.length
    · rw [List.getElem?_set_self hl] at q
      cases q
    · rw [List.getElem?_eq_none (by simpa using hl)] at q
      cases q
  · rw [List.getElem?_set_ne (Ne.symm hj)] at q
    obtain ⟨u, a, b⟩ := h.at_ j m' q
    exact ⟨u, by rw [List.getElem?_set_ne (Ne.symm hj)]; exact a, b⟩⟩
theorem SlOk.weak {ρ' : Ro} (h : SlOk F σ ρ) (hl : ρ'.length = ρ.length) (w : ∀ (i : Nat) (m' : MP), ρ'[i]? = some (some m') → ∃ m : MP, ρ[i]? = some (some m) ∧ ∀ F v, m.R F v → m'.R F v) : SlOk F σ ρ' :=
  ⟨h.len.trans hl.symm, fun i m' q => by
    obtain ⟨m, a, b⟩ := w i m' q
    obtain ⟨v, c, d⟩ := h.at_ i m a
    exact ⟨v, c, b F v d⟩⟩
/-- the block's own slots wiped -/
def wipeR (ρ : Ro) : List Nat → Ro
  | [] => ρ
  | v :: vs => (wipeR ρ vs).set v none
theorem SlOk.wipe (h : SlOk F σ ρ) : ∀ vs : List Nat, SlOk F (L2.wipe σ vs) (wipeR ρ vs)
  | [] => h
  | v :: vs => (SlOk.wipe h vs).setN v none
end

/-! ### pure evaluation -/
/-- from slots as ρ tells, te gives a value that R tells; nothing that stands is changed -/
def EvR (te : TE) (ρ : Ro) (R : Hp → V → Prop) : Prop := ∀ F H σ, Sub F H → SlOk F σ ρ → ∀ Q : VK, (∀ v F2 H2, Le F H F2 H2 → R F2 v → Q v H2) → te σ H Q
abbrev Ev (K : PySem.W.Frag) (te : TE) (ρ : Ro) (d : PyData) : Prop := EvR te ρ (fun F v => Dat K F d v)
def EvB (tt : TT) (ρ : Ro) (b : Bool) : Prop := ∀ F H σ, Sub F H → SlOk F σ ρ → ∀ Q : Bool → Hp → Prop, (∀ F2 H2, Le F H F2 H2 → Q b H2) → tt σ H Q
/-- arguments -/
def EvA (ta : TA) (ρ : Ro) (R : Hp → List V → Prop) : Prop := ∀ F H σ, Sub F H → SlOk F σ ρ → ∀ Q : List V → Hp → Prop, (∀ vs F2 H2, Le F H F2 H2 → R F2 vs → Q vs H2) → ta σ H Q
abbrev EvAD (K : PySem.W.Frag) (ta : TA) (ρ : Ro) (ds : List PyData) : Prop := EvA ta ρ (fun F vs => DatA K F ds vs)
section
variable {K : PySem.W.Frag} {ρ : Ro} {te ta tb : TE} {tt tu : TT} {R R' : Hp → V → Prop}
theorem EvR.imp (h : EvR te ρ R) (i : ∀ F v, R F v → R' F v) : EvR te ρ R' := fun F H σ s sl Q q => h F H σ s sl Q fun v F2 H2 l r => q v F2 H2 l (i F2 v r)
theorem Ev.is {d e : PyData} (h : Ev K te ρ d) (q : d = e) : Ev K te ρ e := by rw [← q]; exact h
theorem EvB.is {b c : Bool} (h : EvB tt ρ b) (q : b = c) : EvB tt ρ c := by rw [← q]; exact h
theorem e_var {i : Nat} {m : MP} (h : ρ[i]? = some (some m)) : EvR (tVar i) ρ m.R := fun F H σ s sl Q q => by
  obtain ⟨v, a, b⟩ := sl.at_ i m h
  exact ⟨v, a, q v F H (Fr.refl s) b⟩
theorem e_dv {i : Nat} {d : PyData} (h : ρ[i]? = some (some (MP.d K d)) := by rfl) : Ev K (tVar i) ρ d := e_var h
theorem e_int {i : Int} : Ev K (tC (.int i)) ρ (.int i) := fun F H σ s sl Q q => q _ F H (Fr.refl s) (.int i)
theorem e_str {x : Str} : Ev K (tC (.str x)) ρ (.str x) := fun F H σ s sl Q q => q _ F H (Fr.refl s) (.str x)
theorem e_bl {b : Bool} : Ev K (tC (.bl b)) ρ (.bool b) := fun F H σ s sl Q q => q _ F H (Fr.refl s) (.bl b)
theorem e_non : Ev K (tC .non) ρ .none := fun F H σ s sl Q q => q _ F H (Fr.refl s) .non
theorem e_c {v : V} : EvR (tC v) ρ (fun _ u => u = v) := fun F H σ s sl Q q => q _ F H (Fr.refl s) rfl
theorem e_cd {v : V} {d : PyData} (h : ∀ F, Dat K F d v) : Ev K (tC v) ρ d := fun F H σ s sl Q q => q _ F H (Fr.refl s) (h F)
theorem a_nil : EvAD K tNil ρ [] := fun F H σ s sl Q q => q _ F H (Fr.refl s) .nil
theorem a_cons {d : PyData} {ds : List PyData} {tr : TA} (h : Ev K te ρ d) (hr : EvAD K tr ρ ds) : EvAD K (tCons te tr) ρ (d :: ds) := fun F H σ s sl Q q =>
  h F H σ s sl _ fun v F1 H1 l1 r1 => hr F1 H1 σ l1.s (sl.mono l1.f) _ fun vs F2 H2 l2 r2 => q _ F2 H2 (l1.trans l2) (.cons (r1.mono l2.f) r2)
theorem a_nilR : EvA tNil ρ (fun _ vs => vs = []) := fun F H σ s sl Q q => q _ F H (Fr.refl s) rfl
theorem a_consR {Rs : Hp → List V → Prop} {tr : TA} (h : EvR te ρ R) (mono : ∀ {F F' : Hp} {v : V}, Sub F F' → R F v → R F' v) (hr : EvA tr ρ Rs) : EvA (tCons te tr) ρ (fun F vs => ∃ v r, vs = v :: r ∧ R F v ∧ Rs F r) := fun F H σ s sl Q q =>
  h F H σ s sl _ fun v F1 H1 l1 r1 => hr F1 H1 σ l1.s (sl.mono l1.f) _ fun vs F2 H2 l2 r2 => q _ F2 H2 (l1.trans l2) ⟨v, vs, rfl, mono l2.f r1, r2⟩
theorem e_tup {t : TA} {ds : List PyData} (h : EvAD K t ρ ds) (hl : ds.length ≤ sizeLine := by decide) : Ev K (tTup t) ρ (.tuple ds) := fun F H σ s sl Q q =>
  h F H σ s sl _ fun vs F1 H1 l1 r1 => ⟨by rw [← r1.length]; exact hl, fun p hp => q (.ref p) (upd F1 p (.tup vs)) _ (l1.trans (Le.new l1.s hp)) (.tup (SqT.of upd_same) (r1.mono (Sub.new (l1.s.none hp))))⟩
theorem e_lst {t : TA} {ds : List PyData} (h : EvAD K t ρ ds) (hl : ds.length ≤ sizeLine := by decide) : Ev K (tLst t) ρ (.list ds) := fun F H σ s sl Q q =>
  h F H σ s sl _ fun vs F1 H1 l1 r1 => ⟨by rw [← r1.length]; exact hl, fun p hp => q (.ref p) (upd F1 p (.lst vs)) _ (l1.trans (Le.new l1.s hp)) (.lst (SqL.of upd_same) (r1.mono (Sub.new (l1.s.none hp))))⟩
/-- tests -/
theorem b_test {b : Bool} (h : Ev K te ρ (.bool b)) : EvB (tTest te) ρ b := fun F H σ s sl Q q => h F H σ s sl _ fun v F1 H1 l1 r1 => by
  cases r1
  exact ⟨b, rfl, q F1 H1 l1⟩
theorem b_tb {b : Bool} (h : Ev K te ρ (.bool b)) : EvB (tB te) ρ b := fun F H σ s sl Q q => h F H σ s sl _ fun v F1 H1 l1 r1 => by
  cases r1
  exact ⟨b, rfl, q F1 H1 l1⟩
theorem b_and {a b : Bool} (h1 : EvB tt ρ a) (h2 : a = true → EvB tu ρ b) : EvB (tAnd tt tu) ρ (a && b) := fun F H σ s sl Q q => h1 F H σ s sl _ fun F1 H1 l1 => by
  cases a with
  | true =>
    show tu σ H1 Q
    exact h2 rfl F1 H1 σ l1.s (sl.mono l1.f) Q fun F2 H2 l2 => q F2 H2 (l1.trans l2)
  | false =>
    show Q false H1
    exact q F1 H1 l1
theorem b_or {a b : Bool} (h1 : EvB tt ρ a) (h2 : a = false → EvB tu ρ b) : EvB (tOr tt tu) ρ (a || b) := fun F H σ s sl Q q => h1 F H σ s sl _ fun F1 H1 l1 => by
  cases a with
  | true =>
    show Q true H1
    exact q F1 H1 l1
  | false =>
    show tu σ H1 Q
    exact h2 rfl F1 H1 σ l1.s (sl.mono l1.f) Q fun F2 H2 l2 => q F2 H2 (l1.trans l2)
theorem b_not {a : Bool} (h1 : EvB tt ρ a) : EvB (tNot tt) ρ (!a) := fun F H σ s sl Q q => h1 F H σ s sl _ fun F1 H1 l1 => q F1 H1 l1
theorem e_and {a : Bool} {d : PyData} (h1 : Ev K ta ρ (.bool a)) (h2 : a = true → Ev K tb ρ d) (h3 : a = false → d = .bool false) : Ev K (tAndV ta tb) ρ d := fun F H σ s sl Q q => h1 F H σ s sl _ fun v F1 H1 l1 r1 => by
  cases r1
  refine ⟨a, rfl, ?_⟩
  cases a with
  | true =>
    show tb σ H1 Q
    exact h2 rfl F1 H1 σ l1.s (sl.mono l1.f) Q fun v F2 H2 l2 r2 => q v F2 H2 (l1.trans l2) r2
  | false =>
    show Q (.bl false) H1
    rw [h3 rfl] at q
    exact q _ F1 H1 l1 (.bl false)
theorem e_or {a : Bool} {d : PyData} (h1 : Ev K ta ρ (.bool a)) (h2 : a = false → Ev K tb ρ d) (h3 : a = true → d = .bool true) : Ev K (tOrV ta tb) ρ d := fun F H σ s sl Q q => h1 F H σ s sl _ fun v F1 H1 l1 r1 => by
  cases r1
  refine ⟨a, rfl, ?_⟩
  cases a with
  | true =>
    show Q (.bl true) H1
    rw [h3 rfl] at q
    exact q _ F1 H1 l1 (.bl true)
  | false =>
    show tb σ H1 Q
    exact h2 rfl F1 H1 σ l1.s (sl.mono l1.f) Q fun v F2 H2 l2 r2 => q v F2 H2 (l1.trans l2) r2
theorem e_andB {a b : Bool} (h1 : Ev K ta ρ (.bool a)) (h2 : a = true → Ev K tb ρ (.bool b)) : Ev K (tAndV ta tb) ρ (.bool (a && b)) :=
  e_and h1 (fun e => by subst e; exact h2 rfl) (fun e => by subst e; rfl)
theorem e_orB {a b : Bool} (h1 : Ev K ta ρ (.bool a)) (h2 : a = false → Ev K tb ρ (.bool b)) : Ev K (tOrV ta tb) ρ (.bool (a || b)) :=
  e_or h1 (fun e => by subst e; exact h2 rfl) (fun e => by subst e; rfl)
theorem e_notB {a : Bool} (h1 : Ev K ta ρ (.bool a)) : Ev K (tNotV ta) ρ (.bool (!a)) := fun F H σ s sl Q q => h1 F H σ s sl _ fun v F1 H1 l1 r1 => by
  cases r1
  exact ⟨a, rfl, q _ F1 H1 l1 (.bl _)⟩
theorem e_if {b : Bool} (h : EvB tt ρ b) (h1 : b = true → EvR ta ρ R) (h2 : b = false → EvR tb ρ R) : EvR (tIf tt ta tb) ρ R := fun F H σ s sl Q q => h F H σ s sl _ fun F1 H1 l1 => by
  cases b with
  | true =>
    show ta σ H1 Q
    exact h1 rfl F1 H1 σ l1.s (sl.mono l1.f) Q fun v F2 H2 l2 r2 => q v F2 H2 (l1.trans l2) r2
  | false =>
    show tb σ H1 Q
    exact h2 rfl F1 H1 σ l1.s (sl.mono l1.f) Q fun v F2 H2 l2 r2 => q v F2 H2 (l1.trans l2) r2
/-- an operator on values -/
theorem e_op {r : R2} {da db dz : PyData} (ha : Ev K ta ρ da) (hb : Ev K tb ρ db) (hr : ∀ F H x y, Sub F H → Dat K F da x → Dat K F db y → ∀ Q : VK, (∀ v F2 H2, Le F H F2 H2 → Dat K F2 dz v → Q v H2) → r x y H Q) : Ev K (tOp r ta tb) ρ dz := fun F H σ s sl Q q =>
  ha F H σ s sl _ fun x F1 H1 l1 r1 => hb F1 H1 σ l1.s (sl.mono l1.f) _ fun y F2 H2 l2 r2 => hr F2 H2 x y l2.s (r1.mono l2.f) r2 Q fun v F3 H3 l3 r3 => q v F3 H3 ((l1.trans l2).trans l3) r3
/-- a call of a built-in -/
theorem e_cb {r : List V → Hp → VK → Prop} {t : TA} {Rs : Hp → List V → Prop} (h : EvA t ρ Rs) (hr : ∀ F H vs, Sub F H → Rs F vs → ∀ Q : VK, (∀ v F2 H2, Le F H F2 H2 → R F2 v → Q v H2) → r vs H Q) : EvR (tCB r t) ρ R := fun F H σ s sl Q q =>
  h F H σ s sl _ fun vs F1 H1 l1 r1 => hr F1 H1 vs l1.s r1 Q fun v F2 H2 l2 r2 => q v F2 H2 (l1.trans l2) r2
theorem e_cb1 {r : List V → Hp → VK → Prop} {d : PyData} (h : Ev K te ρ d) (hr : ∀ F H v, Sub F H → Dat K F d v → ∀ Q : VK, (∀ v F2 H2, Le F H F2 H2 → R F2 v → Q v H2) → r [v] H Q) : EvR (tCB r (tCons te tNil)) ρ R :=
  e_cb (a_cons h a_nil) fun F H vs s r => by
    cases r with
    | cons h1 h2 =>
      cases h2
      exact hr F H _ s h1
end
end LK

set_option Elab.async false
set_option linter.all false
set_option maxRecDepth 100000
set_option maxHeartbeats 1000000
/-! LK1: statements from slots as ρ tells, in a state as J tells; promises of defs. -/
namespace LK
open PySem PySem.Spec PyProof.Rows L2

abbrev JP := Hp → Hp → Prop
abbrev JT : JP := fun _ _ => True
def Cl (J : JP) : Prop := ∀ F H F2 H2, Le F H F2 H2 → J F H → J F2 H2
theorem cl_T : Cl JT := fun _ _ _ _ _ _ => trivial
theorem Cl.and {J J' : JP} (a : Cl J) (b : Cl J') : Cl (fun F H => J F H ∧ J' F H) := fun F H F2 H2 l h => ⟨a F H F2 H2 l h.1, b F H F2 H2 l h.2⟩

/-! ### evaluation that may change S -/
def EvS (S : Addr → Prop) (J : JP) (te : TE) (ρ : Ro) (R : V → JP) : Prop := ∀ F H σ, Sub F H → J F H → SlOk F σ ρ → ∀ Q : VK, (∀ v F2 H2, Fr S F H F2 H2 → R v F2 H2 → Q v H2) → te σ H Q
def EvSB (S : Addr → Prop) (J : JP) (tt : TT) (ρ : Ro) (R : Bool → JP) : Prop := ∀ F H σ, Sub F H → J F H → SlOk F σ ρ → ∀ Q : Bool → Hp → Prop, (∀ b F2 H2, Fr S F H F2 H2 → R b F2 H2 → Q b H2) → tt σ H Q
def EvSA (S : Addr → Prop) (J : JP) (ta : TA) (ρ : Ro) (R : List V → JP) : Prop := ∀ F H σ, Sub F H → J F H → SlOk F σ ρ → ∀ Q : List V → Hp → Prop, (∀ vs F2 H2, Fr S F H F2 H2 → R vs F2 H2 → Q vs H2) → ta σ H Q
section
variable {S : Addr → Prop} {J J' : JP} {te ta tb : TE} {tt : TT} {ρ : Ro} {R R' : V → JP} {R0 : Hp → V → Prop}
theorem EvS.of (h : EvR te ρ R0) (c : Cl J) : EvS S J te ρ (fun v F H => J F H ∧ R0 F v) := fun F H σ s j sl Q q => h F H σ s sl Q fun v F2 H2 l r => q v F2 H2 l.up ⟨c F H F2 H2 l j, r⟩
theorem EvS.imp (h : EvS S J te ρ R) (i : ∀ v F H, R v F H → R' v F H) : EvS S J te ρ R' := fun F H σ s j sl Q q => h F H σ s j sl Q fun v F2 H2 l r => q v F2 H2 l (i v F2 H2 r)
theorem EvS.pre (h : EvS S J te ρ R) (i : ∀ F H, J' F H → J F H) : EvS S J' te ρ R := fun F H σ s j sl Q q => h F H σ s (i F H j) sl Q q
theorem EvSB.of {b : Bool} (h : EvB tt ρ b) (c : Cl J) : EvSB S J tt ρ (fun b' F H => J F H ∧ b' = b) := fun F H σ s j sl Q q => h F H σ s sl Q fun F2 H2 l => q b F2 H2 l.up ⟨c F H F2 H2 l j, rfl⟩
end

/-! ### statements -/
/-- every way: it gives back a value (R), or goes on with slots (Nx) -/
def St (S : Addr → Prop) (J : JP) (t : TS) (ρ : Ro) (Nx : Ro → JP) (R : V → JP) : Prop := ∀ F H σ, Sub F H → J F H → SlOk F σ ρ → ∀ D : Ends,
  (∀ v F2 H2, Fr S F H F2 H2 → R v F2 H2 → D.rt v H2) → (∀ ρ' σ' F2 H2, Fr S F H F2 H2 → Nx ρ' F2 H2 → SlOk F2 σ' ρ' → D.nx σ' H2) → t D σ H
abbrev NoNx : Ro → JP := fun _ _ _ => False
/-- a body that gives back data, changing nothing -/
abbrev Bd (K : PySem.W.Frag) (t : TS) (ρ : Ro) (d : PyData) : Prop := St S0 JT t ρ NoNx (fun v F _ => Dat K F d v)
section
variable {S : Addr → Prop} {J J' : JP} {te : TE} {tt : TT} {t u w : TS} {ρ : Ro} {Nx Nx' : Ro → JP} {R R' : V → JP} {R0 : Hp → V → Prop} {K : PySem.W.Frag}
theorem St.imp (h : St S J t ρ Nx R) (i : ∀ v F H, R v F H → R' v F H) (n : ∀ ρ' F H, Nx ρ' F H → Nx' ρ' F H) : St S J t ρ Nx' R' := fun F H σ s j sl D hr hn =>
  h F H σ s j sl D (fun v F2 H2 l r => hr v F2 H2 l (i _ _ _ r)) fun ρ' σ' F2 H2 l r => hn ρ' σ' F2 H2 l (n _ _ _ r)
theorem St.pre (h : St S J t ρ Nx R) (i : ∀ F H, J' F H → J F H) : St S J' t ρ Nx R := fun F H σ s j sl D => h F H σ s (i F H j) sl D
/-- what J tells of things that do not hang on the state -/
theorem St.get {P : Prop} (h : P → St S J t ρ Nx R) (i : ∀ F H, J F H → P) : St S J t ρ Nx R := fun F H σ s j => h (i F H j) F H σ s j
theorem St.ex {α : Type} {G : α → JP} (h : ∀ x, St S (G x) t ρ Nx R) (i : ∀ F H, J F H → ∃ x, G x F H) : St S J t ρ Nx R := fun F H σ s j => by
  obtain ⟨x, g⟩ := i F H j
  exact h x F H σ s g
theorem s_retS (h : EvS S J te ρ R) : St S J (tRet te) ρ Nx R := fun F H σ s j sl D hr _ => h F H σ s j sl _ fun v F2 H2 l r => hr v F2 H2 l r
theorem s_ret (h : EvR te ρ R0) (c : Cl J) (i : ∀ v F H, J F H → R0 F v → R v F H) : St S J (tRet te) ρ Nx R := s_retS ((EvS.of h c).imp fun v F H q => i v F H q.1 q.2)
/-- gives back data, nothing changed -/
theorem s_retD {d : PyData} (h : Ev K te ρ d) : St S JT (tRet te) ρ Nx (fun v F _ => Dat K F d v) := s_ret h cl_T fun _ _ _ _ r => r
theorem s_retN (i : ∀ F H, J F H → R .non F H) : St S J tRetN ρ Nx R := fun F H σ s j sl D hr _ => hr .non F H (Fr.refl s) (i F H j)
theorem s_next (i : ∀ F H, J F H → Nx ρ F H) : St S J tNext ρ Nx R := fun F H σ s j sl D _ hn => hn ρ σ F H (Fr.refl s) (i F H j) sl
theorem s_seq {Nm : Ro → JP} (h : St S J t ρ Nm R) (k : ∀ ρ1, St S (Nm ρ1) u ρ1 Nx R) : St S J (tSeq t u) ρ Nx R := fun F H σ s j sl D hr hn =>
  h F H σ s j sl { D with nx := u D } (fun v F2 H2 l r => hr v F2 H2 l r) fun ρ1 σ1 F1 H1 l1 n1 sl1 =>
    k ρ1 F1 H1 σ1 l1.s n1 sl1 D (fun v F2 H2 l r => hr v F2 H2 (l1.trans l) r) fun ρ' σ' F2 H2 l r => hn ρ' σ' F2 H2 (l1.trans l) r
/-- x = e; the rest -/
theorem q_asgS {i : Nat} {α : Type} {m : α → MP} {G : α → JP} (h : EvS S J te ρ R') (g : ∀ v F H, R' v F H → ∃ x, (m x).R F v ∧ G x F H) (k : ∀ x, St S (G x) u (ρ.set i (some (m x))) Nx R) : St S J (tSeq (tAsg te (gName i)) u) ρ Nx R := fun F H σ s j sl D hr hn =>
  h F H σ s j sl _ fun v F1 H1 l1 r1 => by
    obtain ⟨x, a, b⟩ := g v F1 H1 r1
    exact k x F1 H1 (σ.set i (some v)) l1.s b ((sl.mono l1.f).set i a) D (fun v F2 H2 l r => hr v F2 H2 (l1.trans l) r) fun ρ' σ' F2 H2 l r => hn ρ' σ' F2 H2 (l1.trans l) r
theorem q_asg {i : Nat} {m : MP} (h : EvR te ρ m.R) (c : Cl J) (k : St S J u (ρ.set i (some m)) Nx R) : St S J (tSeq (tAsg te (gName i)) u) ρ Nx R :=
  q_asgS (α := Unit) (m := fun _ => m) (G := fun _ => J) (EvS.of h c) (fun v F H q => ⟨(), q.2, q.1⟩) fun _ => k
theorem q_asgD {i : Nat} {d : PyData} (h : Ev K te ρ d) (c : Cl J) (k : St S J u (ρ.set i (some (MP.d K d))) Nx R) : St S J (tSeq (tAsg te (gName i)) u) ρ Nx R := q_asg (m := MP.d K d) h c k
/-- x = e, the last statement of a block -/
theorem s_asgS {i : Nat} {m : MP} (h : EvS S J te ρ R') (g : ∀ v F H, R' v F H → m.R F v ∧ Nx (ρ.set i (some m)) F H) : St S J (tAsg te (gName i)) ρ Nx R := fun F H σ s j sl D _ hn =>
  h F H σ s j sl _ fun v F1 H1 l1 r1 => hn _ _ F1 H1 l1 (g v F1 H1 r1).2 ((sl.mono l1.f).set i (g v F1 H1 r1).1)
theorem s_asg {i : Nat} {m : MP} (h : EvR te ρ m.R) (c : Cl J) (n : ∀ F H, J F H → Nx (ρ.set i (some m)) F H) : St S J (tAsg te (gName i)) ρ Nx R := s_asgS (m := m) (EvS.of h c) fun v F H q => ⟨q.2, n F H q.1⟩
theorem q_drop (h : EvS S J te ρ R') (g : ∀ v F H, R' v F H → J' F H) (k : St S J' u ρ Nx R) : St S J (tSeq (tDrop te) u) ρ Nx R := fun F H σ s j sl D hr hn =>
  h F H σ s j sl _ fun v F1 H1 l1 r1 => k F1 H1 σ l1.s (g v F1 H1 r1) (sl.mono l1.f) D (fun v F2 H2 l r => hr v F2 H2 (l1.trans l) r) fun ρ' σ' F2 H2 l r => hn ρ' σ' F2 H2 (l1.trans l) r
theorem s_drop (h : EvS S J te ρ R') (g : ∀ v F H, R' v F H → Nx ρ F H) : St S J (tDrop te) ρ Nx R := fun F H σ s j sl D _ hn =>
  h F H σ s j sl _ fun v F1 H1 l1 r1 => hn ρ σ F1 H1 l1 (g v F1 H1 r1) (sl.mono l1.f)
/-- if, an answer known -/
theorem s_if {b : Bool} (h : EvB tt ρ b) (c : Cl J) (h1 : b = true → St S J t ρ Nx R) (h2 : b = false → St S J u ρ Nx R) : St S J (tIfS tt t u) ρ Nx R := fun F H σ s j sl D hr hn =>
  h F H σ s sl _ fun F1 H1 l1 => by
    have j1 := c F H F1 H1 l1 j
    cases b with
    | true => exact h1 rfl F1 H1 σ l1.s j1 (sl.mono l1.f) D (fun v F2 H2 l r => hr v F2 H2 (l1.up.trans l) r) fun ρ' σ' F2 H2 l r => hn ρ' σ' F2 H2 (l1.up.trans l) r
    | false => exact h2 rfl F1 H1 σ l1.s j1 (sl.mono l1.f) D (fun v F2 H2 l r => hr v F2 H2 (l1.up.trans l) r) fun ρ' σ' F2 H2 l r => hn ρ' σ' F2 H2 (l1.up.trans l) r
theorem s_ifS {G : Bool → JP} (h : EvSB S J tt ρ G) (h1 : St S (G true) t ρ Nx R) (h2 : St S (G false) u ρ Nx R) : St S J (tIfS tt t u) ρ Nx R := fun F H σ s j sl D hr hn =>
  h F H σ s j sl _ fun b F1 H1 l1 g => by
    cases b with
    | true => exact h1 F1 H1 σ l1.s g (sl.mono l1.f) D (fun v F2 H2 l r => hr v F2 H2 (l1.trans l) r) fun ρ' σ' F2 H2 l r => hn ρ' σ' F2 H2 (l1.trans l) r
    | false => exact h2 F1 H1 σ l1.s g (sl.mono l1.f) D (fun v F2 H2 l r => hr v F2 H2 (l1.trans l) r) fun ρ' σ' F2 H2 l r => hn ρ' σ' F2 H2 (l1.trans l) r
/-- if, then the rest: the rest stands behind each branch -/
theorem q_if {b : Bool} (h : EvB tt ρ b) (c : Cl J) (h1 : b = true → St S J (tSeq t w) ρ Nx R) (h2 : b = false → St S J (tSeq u w) ρ Nx R) : St S J (tSeq (tIfS tt t u) w) ρ Nx R := fun F H σ s j sl D hr hn =>
  s_if (t := tSeq t w) (u := tSeq u w) h c h1 h2 F H σ s j sl D hr hn
theorem q_ifS {G : Bool → JP} (h : EvSB S J tt ρ G) (h1 : St S (G true) (tSeq t w) ρ Nx R) (h2 : St S (G false) (tSeq u w) ρ Nx R) : St S J (tSeq (tIfS tt t u) w) ρ Nx R := fun F H σ s j sl D hr hn =>
  s_ifS (t := tSeq t w) (u := tSeq u w) h h1 h2 F H σ s j sl D hr hn
theorem q_next (k : St S J u ρ Nx R) : St S J (tSeq tNext u) ρ Nx R := fun F H σ s j sl D hr hn => k F H σ s j sl D hr hn
theorem q_assoc (k : St S J (tSeq t (tSeq u w)) ρ Nx R) : St S J (tSeq (tSeq t u) w) ρ Nx R := fun F H σ s j sl D hr hn => k F H σ s j sl D hr hn
/-- a block that gives back a value: what follows is never reached -/
theorem q_ret (k : St S J t ρ NoNx R) : St S J (tSeq t u) ρ Nx R := fun F H σ s j sl D hr hn =>
  k F H σ s j sl { D with nx := u D } hr fun _ _ _ _ _ z => z.elim
/-- if c: return ..; the rest -/
theorem q_ifret {b : Bool} (h : EvB tt ρ b) (c : Cl J) (h1 : b = true → St S J t ρ NoNx R) (h2 : b = false → St S J w ρ Nx R) : St S J (tSeq (tIfS tt t tNext) w) ρ Nx R :=
  q_if h c (fun e => q_ret (h1 e)) (fun e => q_next (h2 e))
end

/-! ### targets: a, b, .. = e -/
/-- outside ns the slots are as they were -/
def Out (ns : List Nat) (σ σ' : L2.St) : Prop := σ'.length = σ.length ∧ ∀ i, i ∉ ns → σ'[i]? = σ[i]?
theorem Out.refl (ns : List Nat) (σ : L2.St) : Out ns σ σ := ⟨rfl, fun _ _ => rfl⟩
theorem Out.trans {ns ms : List Nat} {a b c : L2.St} (x : Out ns a b) (y : Out ms b c) : Out (ns ++ ms) a c := ⟨y.1.trans x.1, fun i h => (y.2 i fun z => h (List.mem_append_right _ z)).trans (x.2 i fun z => h (List.mem_append_left _ z))⟩
theorem Out.set (σ : L2.St) (i : Nat) (x : Option V) : Out [i] σ (σ.set i x) := ⟨by simp, fun j h => by
  have n : i ≠ j := fun e => h (by simp [e])
  rw [List.getElem?_set_ne n]⟩
/-- each item's data goes to its slot -/
def GsD (K : PySem.W.Frag) (t : TGs) (ds : List PyData) (ns : List Nat) (up : Ro → Ro) : Prop := ∀ F vs σ ρ H, Sub F H → DatA K F ds vs → SlOk F σ ρ → ∀ Q : L2.St → Hp → Prop, (∀ σ', SlOk F σ' (up ρ) → Out ns σ σ' → Q σ' H) → t vs σ H Q
def GtD (K : PySem.W.Frag) (t : TG) (d : PyData) (ns : List Nat) (up : Ro → Ro) : Prop := ∀ F v σ ρ H, Sub F H → Dat K F d v → SlOk F σ ρ → ∀ Q : L2.St → Hp → Prop, (∀ σ', SlOk F σ' (up ρ) → Out ns σ σ' → Q σ' H) → t v σ H Q
section
variable {K : PySem.W.Frag} {d : PyData} {ds : List PyData} {t : TG} {r : TGs} {ns ms : List Nat} {up up' : Ro → Ro}
theorem gs_nil : GsD K gNil [] [] (fun ρ => ρ) := fun F vs σ ρ H s r sl Q q => by
  cases r
  exact ⟨rfl, q σ sl (Out.refl _ σ)⟩
theorem gs_cons (h1 : GtD K t d ns up) (h : GsD K r ds ms up') : GsD K (gCons t r) (d :: ds) (ns ++ ms) (fun ρ => up' (up ρ)) := fun F vs σ ρ H s a sl Q q => by
  cases a with
  | cons a1 a2 => exact ⟨_, _, rfl, h1 F _ σ ρ H s a1 sl _ fun σ1 sl1 o1 => h F _ σ1 _ H s a2 sl1 Q fun σ2 sl2 o2 => q σ2 sl2 (o1.trans o2)⟩
theorem gt_name {i : Nat} : GtD K (gName i) d [i] (fun ρ => ρ.set i (some (MP.d K d))) := fun F v σ ρ H s a sl Q q => q _ (sl.set (m := MP.d K d) i a) (Out.set σ i _)
theorem gt_tup {n : Nat} (h : GsD K r ds ns up) (hn : ds.length = n := by rfl) : GtD K (gTup K n r) (.tuple ds) ns up := fun F v σ ρ H s a sl Q q => by
  cases a with
  | tup hs ha => exact ⟨_, _, rfl, sqt_sub s hs, by rw [← ha.length]; exact hn, h F _ σ ρ H s ha sl Q q⟩
end
section
variable {S : Addr → Prop} {J : JP} {te : TE} {u : TS} {ρ : Ro} {Nx : Ro → JP} {R : V → JP} {K : PySem.W.Frag} {d : PyData} {g : TG} {ns : List Nat} {up : Ro → Ro}
theorem q_asgG (h : Ev K te ρ d) (hg : GtD K g d ns up) (c : Cl J) (k : St S J u (up ρ) Nx R) : St S J (tSeq (tAsg te g) u) ρ Nx R := fun F H σ s j sl D hr hn =>
  h F H σ s sl _ fun v F1 H1 l1 r1 => hg F1 v σ ρ H1 l1.s r1 (sl.mono l1.f) _ fun σ1 sl1 _ =>
    k F1 H1 σ1 l1.s (c F H F1 H1 l1 j) sl1 D (fun v F2 H2 l r => hr v F2 H2 (l1.up.trans l) r) fun ρ' σ' F2 H2 l r => hn ρ' σ' F2 H2 (l1.up.trans l) r
end
/-! ### promises -/
/-- a def that changes nothing: x: what is told of the arguments; post: of what it gives back -/
def spR {α : Type} (n : Nat) (pre : α → Hp → List V → Prop) (post : α → Hp → V → Prop) : Sp := fun vs H Q _ => vs.length = n ∧ ∃ (x : α) (F : Hp), Sub F H ∧ pre x F vs ∧ ∀ v F2 H2, Le F H F2 H2 → post x F2 v → Q v H2
/-- data in, data out -/
abbrev spD (K : PySem.W.Frag) (n : Nat) (P : List PyData → PyData → Prop) : Sp := spR (α := List PyData × PyData) n (fun x F vs => DatA K F x.1 vs ∧ P x.1 x.2) (fun x F v => Dat K F x.2 v)
/-- a def that may change S x -/
def spS {α : Type} (n : Nat) (S : α → Addr → Prop) (J : α → JP) (pre : α → Hp → List V → Prop) (post : α → V → JP) : Sp := fun vs H Q _ => vs.length = n ∧ ∃ (x : α) (F : Hp), Sub F H ∧ J x F H ∧ pre x F vs ∧ ∀ v F2 H2, Fr (S x) F H F2 H2 → post x v F2 H2 → Q v H2
def st0 (N : List Str) (ms : List MP) : Ro := ms.map some ++ List.replicate (N.length - ms.length) none
theorem slok_start {N : List Str} {ms : List MP} {F : Hp} {vs : List V} (hl : vs.length = ms.length) (h : ∀ (i : Nat) (m : MP), ms[i]? = some m → ∃ v, vs[i]? = some v ∧ m.R F v) : SlOk F (L2.start N vs) (st0 N ms) := by
  refine ⟨by simp [L2.start, st0, hl], fun i m q => ?_⟩
  unfold st0 at q
  by_cases hi : i < ms.length
  · rw [List.getElem?_append_left (by simpa using hi), List.getElem?_map] at q
    cases e : ms[i]? with
    | none => rw [e] at q; cases q
    | some m' =>
      rw [e] at q
      have em : m' = m := Option.some.inj (Option.some.inj q)
      subst em
      obtain ⟨v, a, b⟩ := h i m' e
      refine ⟨v, ?_, b⟩
      unfold L2.start
      rw [List.getElem?_append_left (by rw [List.length_map, hl]; exact hi), List.getElem?_map, a]
      rfl
  · rw [List.getElem?_append_right (by simpa using hi)] at q
    rw [List.getElem?_replicate] at q
    split at q <;> cases q
theorem slok_data {K : PySem.W.Frag} {N : List Str} {ds : List PyData} {F : Hp} {vs : List V} (h : DatA K F ds vs) : SlOk F (L2.start N vs) (st0 N (ds.map (MP.d K))) :=
  slok_start (by rw [List.length_map]; exact h.length.symm) fun i m e => by
    rw [List.getElem?_map] at e
    cases q : ds[i]? with
    | none => rw [q] at e; cases e
    | some d =>
      rw [q] at e
      have em : MP.d K d = m := Option.some.inj e
      subst em
      exact h.getD q
section
variable {P : Program} {w : World} {K : PySem.W.Frag} {mg : Str → Option Value} {base : Heap} {x qual : Str} {params : Arguments} {body : List Stmt} {scope : Scope} {dvs : List V} {kws : List (Str × V)} {f : Addr} {fd : FuncData} {N ps : List Str} {k : Nat}
/-- THE RULE for a def that takes data, changes nothing and gives back data -/
theorem okD {Pf : List PyData → PyData → Prop} {n : Nat} (F : FunD K x qual params body scope dvs kws f fd) (S : FnScope N ps scope)
    (hb : ∀ (cdv : Value) (A : Around) (outer : List Env) (s : Shared) (H : Hp) (E : XK), Room k (A.deeper (envOfC qual scope s.heap.objs.size f cdv)) →
      ∃ t, PSs (cxOf CX0 P w K mg base N qual scope f cdv A outer s H E).nox body t ∧ ∀ ds d, ds.length = n → Pf ds d → Bd K t (st0 N (ds.map (MP.d K))) d) (hn : ps.length = n := by rfl) :
    FnOk P w K mg base CX0 (k + 1) f fd ps (spD K n Pf) := by
  refine F.ok S (fun vs H Q E h => by rw [hn]; exact h.1) fun cdv A outer s H vs Q E hr h => ?_
  obtain ⟨t, h1, h2⟩ := hb cdv A outer s H E hr
  refine ⟨t, PSs.nox h1, ?_⟩
  obtain ⟨hl, x, F0, s0, ⟨ha, hp⟩, q⟩ := h
  exact h2 x.1 x.2 (ha.length.trans hl) hp F0 H _ s0 trivial (slok_data ha) _ (fun v F2 H2 l r => q v F2 H2 l r) fun _ _ _ _ _ z => z.elim
/-- .. what it gives back is told by a predicate -/
theorem okR {α : Type} {n : Nat} {pre : α → Hp → List V → Prop} {post : α → Hp → V → Prop} (F : FunD K x qual params body scope dvs kws f fd) (S : FnScope N ps scope) (ms : α → List MP)
    (hm : ∀ x F vs, vs.length = n → pre x F vs → SlOk F (L2.start N vs) (st0 N (ms x)))
    (hb : ∀ (cdv : Value) (A : Around) (outer : List Env) (s : Shared) (H : Hp) (E : XK), Room k (A.deeper (envOfC qual scope s.heap.objs.size f cdv)) →
      ∃ t, PSs (cxOf CX0 P w K mg base N qual scope f cdv A outer s H E).nox body t ∧ ∀ x, St S0 (fun F _ => ∃ vs, pre x F vs) t (st0 N (ms x)) (fun _ F _ => post x F .non) (fun v F _ => post x F v)) (hn : ps.length = n := by rfl) :
    FnOk P w K mg base CX0 (k + 1) f fd ps (spR n pre post) := by
  refine F.ok S (fun vs H Q E h => by rw [hn]; exact h.1) fun cdv A outer s H vs Q E hr h => ?_
  obtain ⟨t, h1, h2⟩ := hb cdv A outer s H E hr
  refine ⟨t, PSs.nox h1, ?_⟩
  obtain ⟨hl, x, F0, s0, hp, q⟩ := h
  exact h2 x F0 H _ s0 ⟨vs, hp⟩ (hm x F0 vs hl hp) _ (fun v F2 H2 l r => q v F2 H2 l r) fun _ _ F2 H2 l r _ => q .non F2 H2 l r
/-- .. and may change S x -/
theorem okS {α : Type} {n : Nat} {S : α → Addr → Prop} {J : α → JP} {pre : α → Hp → List V → Prop} {post : α → V → JP} (F : FunD K x qual params body scope dvs kws f fd) (Sc : FnScope N ps scope) (ms : α → List MP)
    (hm : ∀ x F vs, vs.length = n → pre x F vs → SlOk F (L2.start N vs) (st0 N (ms x)))
    (hb : ∀ (cdv : Value) (A : Around) (outer : List Env) (s : Shared) (H : Hp) (E : XK), Room k (A.deeper (envOfC qual scope s.heap.objs.size f cdv)) →
      ∃ t, PSs (cxOf CX0 P w K mg base N qual scope f cdv A outer s H E).nox body t ∧ ∀ x, St (S x) (fun F H => J x F H ∧ ∃ vs, pre x F vs) t (st0 N (ms x)) (fun _ F H => post x .non F H) (fun v F H => post x v F H)) (hn : ps.length = n := by rfl) :
    FnOk P w K mg base CX0 (k + 1) f fd ps (spS n S J pre post) := by
  refine F.ok Sc (fun vs H Q E h => by rw [hn]; exact h.1) fun cdv A outer s H vs Q E hr h => ?_
  obtain ⟨t, h1, h2⟩ := hb cdv A outer s H E hr
  refine ⟨t, PSs.nox h1, ?_⟩
  obtain ⟨hl, x, F0, s0, hj, hp, q⟩ := h
  exact h2 x F0 H _ s0 ⟨hj, vs, hp⟩ (hm x F0 vs hl hp) _ (fun v F2 H2 l r => q v F2 H2 l r) fun _ _ F2 H2 l r _ => q .non F2 H2 l r
end
/-! ### calls -/
section
variable {K : PySem.W.Frag} {ρ : Ro} {ta : TA} {E : XK} {S : Addr → Prop} {J : JP}
theorem e_callR {α : Type} {n : Nat} {pre : α → Hp → List V → Prop} {post : α → Hp → V → Prop} (x : α) (h : EvA ta ρ (fun F vs => vs.length = n ∧ pre x F vs)) : EvR (tCall (spR n pre post) [] E ta) ρ (post x) := fun F H σ s sl Q q =>
  h F H σ s sl _ fun vs F1 H1 l1 ⟨hl, hp⟩ => ⟨by rw [List.append_nil]; exact hl, x, F1, l1.s, by rw [List.append_nil]; exact hp, fun v F2 H2 l r => q v F2 H2 (l1.trans l) r⟩
theorem e_call {n : Nat} {Pf : List PyData → PyData → Prop} {ds : List PyData} {d : PyData} (h : EvAD K ta ρ ds) (hp : Pf ds d) (hn : ds.length = n := by rfl) : Ev K (tCall (spD K n Pf) [] E ta) ρ d :=
  e_callR (ds, d) fun F H σ s sl Q q => h F H σ s sl Q fun vs F2 H2 l r => q vs F2 H2 l ⟨by rw [← r.length]; exact hn, r, hp⟩
theorem es_call {α : Type} {n : Nat} {S' : α → Addr → Prop} {J' : α → JP} {pre : α → Hp → List V → Prop} {post : α → V → JP} (x : α) (h : EvSA S J ta ρ (fun vs F H => vs.length = n ∧ J' x F H ∧ pre x F vs)) (hS : ∀ a, S' x a → S a) : EvS S J (tCall (spS n S' J' pre post) [] E ta) ρ (post x) := fun F H σ s j sl Q q =>
  h F H σ s j sl _ fun vs F1 H1 l1 ⟨hl, hj, hp⟩ => ⟨by rw [List.append_nil]; exact hl, x, F1, l1.s, hj, by rw [List.append_nil]; exact hp, fun v F2 H2 l r => q v F2 H2 (l1.trans (l.weak hS)) r⟩
end
end LK

set_option Elab.async false
set_option linter.all false
set_option maxRecDepth 100000
set_option maxHeartbeats 1000000
/-! LK2: built-in operations on data. -/
namespace LK
open PySem PySem.Spec PyProof.Rows L2

/-! ### isinstance -/
def tyD : PyData → String
  | .none => "NoneType"
  | .bool _ => "bool"
  | .int _ => "int"
  | .str _ => "str"
  | .list _ => "list"
  | .tuple _ => "tuple"
  | .dict _ => "dict"
theorem tyX_of {K : PySem.W.Frag} {F H : Hp} {d : PyData} {v : V} (h : Dat K F d v) (s : Sub F H) : TyX K H v (.type (tyD d)) := by
  cases h with
  | non => exact .base .non
  | bl b => exact .base (.bl b)
  | int i => exact .base (.int i)
  | str x => exact .base (.str x)
  | lst hs _ =>
    rcases hs with (h | ⟨o, h⟩) | ⟨o, its, n, h, hc, _⟩
    · exact .base (.lst (s _ _ h))
    · exact .base (.frz (s _ _ h))
    · exact .kList h hc
  | tup hs _ =>
    rcases hs with (h | ⟨o, h⟩) | ⟨o, its, n, h, hc, _⟩
    · exact .base (.tup (s _ _ h))
    · exact .fTuple (s _ _ h)
    · exact .kTuple h hc
  | dic h _ _ => exact .base (.dK (s _ _ h))
def isiB (d : PyData) (T : String) : Bool := (kitB (tyD d) T).getD false
section
variable {K : PySem.W.Frag} {ρ : Ro} {te ta tb : TE} {d da db : PyData} {S : Addr → Prop} {J : JP}
theorem e_isi {T : String} (h : Ev K te ρ d) (hk : (kitB (tyD d) T).isSome = true := by cases d <;> decide +kernel) : Ev K (tCB (rIsi K) (tCons te (tCons (tC (.ty T)) tNil))) ρ (.bool (isiB d T)) := fun F H σ s sl Q q =>
  h F H σ s sl _ fun v F1 H1 l1 r1 => ⟨v, .ty T, .type (tyD d), .type T, isiB d T, rfl, .ty T, tyX_of r1 l1.s, kit_ty (by unfold isiB; cases e : kitB (tyD d) T with | none => rw [e] at hk; cases hk | some b => rfl), q _ F1 H1 l1 (.bl _)⟩
theorem e_isi2 {T U : String} (h : Ev K te ρ d) (hk : (kitB (tyD d) T).isSome = true := by cases d <;> decide +kernel) (hk2 : (kitB (tyD d) U).isSome = true := by cases d <;> decide +kernel) :
    Ev K (tCB (rIsiT K) (tCons te (tCons (tTup (tCons (tC (.ty T)) (tCons (tC (.ty U)) tNil))) tNil))) ρ (.bool (isiB d T || isiB d U)) := fun F H σ s sl Q q =>
  h F H σ s sl _ fun v F1 H1 l1 r1 => ⟨(by decide : 2 ≤ sizeLine), fun p hp => by
    obtain ⟨b, eb⟩ : ∃ b, kitB (tyD d) T = some b := Option.isSome_iff_exists.mp hk
    obtain ⟨c, ec⟩ : ∃ c, kitB (tyD d) U = some c := Option.isSome_iff_exists.mp hk2
    have e1 : isiB d T = b := by unfold isiB; rw [eb]; rfl
    have e2 : isiB d U = c := by unfold isiB; rw [ec]; rfl
    refine ⟨v, p, [.ty T, .ty U], .type (tyD d), [.type T, .type U], isiB d T || isiB d U, rfl, upd_same, .cons (.ty T) (.cons (.ty U) .nil), tyX_of r1 (l1.s.trans (Sub.new hp)), ?_, q _ F1 _ (l1.trans (Le.newM l1.s hp)) (.bl _)⟩
    rw [e1, e2]
    refine kitAny_cons (kit_ty eb) (fun e => ?_) (fun e => by rw [e]; rfl)
    subst e
    refine kitAny_cons (kit_ty ec) (fun e => ?_) (fun e => by rw [e]; rfl)
    subst e
    rfl⟩
/-! ### len -/
theorem e_lenS {x : Str} (h : Ev K te ρ (.str x)) (hz : x.length ≤ sizeLine) : Ev K (tCB (fun xs H Q => ∃ z, xs = [.str z] ∧ z.length ≤ sizeLine ∧ Q (.int z.length) H) (tCons te tNil)) ρ (.int x.length) :=
  e_cb1 h fun F H v s r Q q => by
    cases r
    exact ⟨x, rfl, hz, q _ F H (Fr.refl s) (.int _)⟩
theorem e_lenL {ds : List PyData} (h : Ev K te ρ (.list ds)) : Ev K (tCB (fun xs H Q => ∃ p ys, xs = [.ref p] ∧ (SqL K H p ys ∨ SqT K H p ys) ∧ Q (.int ys.length) H) (tCons te tNil)) ρ (.int ds.length) :=
  e_cb1 h fun F H v s r Q q => by
    cases r with
    | lst hs ha => exact ⟨_, _, rfl, .inl (sql_sub s hs), by rw [← ha.length]; exact q _ F H (Fr.refl s) (.int _)⟩
theorem e_lenT {ds : List PyData} (h : Ev K te ρ (.tuple ds)) : Ev K (tCB (fun xs H Q => ∃ p ys, xs = [.ref p] ∧ (SqL K H p ys ∨ SqT K H p ys) ∧ Q (.int ys.length) H) (tCons te tNil)) ρ (.int ds.length) :=
  e_cb1 h fun F H v s r Q q => by
    cases r with
    | tup hs ha => exact ⟨_, _, rfl, .inr (sqt_sub s hs), by rw [← ha.length]; exact q _ F H (Fr.refl s) (.int _)⟩
/-! ### == -/
mutual
theorem dp_of {F H : Hp} (s : Sub F H) : ∀ {d : PyData} {v : V}, Dat K F d v → d.hasDict = false → Dp K H v d
  | _, _, .non, _ => .non
  | _, _, .bl b, _ => .bl b
  | _, _, .int i, _ => .int i
  | _, _, .str x, _ => .str x
  | _, _, .lst h a, n => .lst (sql_sub s h) (dpA_of s a (by simpa [PyData.hasDict] using n))
  | _, _, .tup h a, n => .tup (sqt_sub s h) (dpA_of s a (by simpa [PyData.hasDict] using n))
  | _, _, .dic h k a, n => by simp [PyData.hasDict] at n
theorem dpA_of {F H : Hp} (s : Sub F H) : ∀ {ds : List PyData} {vs : List V}, DatA K F ds vs → PyData.hasDictAll ds = false → DpAll K H vs ds
  | _, _, .nil, _ => .nil
  | _, _, .cons h t, n => by
    simp only [PyData.hasDictAll, Bool.or_eq_false_iff] at n
    exact .cons (dp_of s h n.1) (dpA_of s t n.2)
end
theorem e_eqD (ha : Ev K ta ρ da) (hb : Ev K tb ρ db) (na : da.hasDict = false) (nb : db.hasDict = false) (sa : SeqAt.shaped da = true) (sb : SeqAt.shaped db = true) : Ev K (tOp (rEqD K) ta tb) ρ (.bool (PyData.eqv da db)) :=
  e_op ha hb fun F H x y s rx ry Q q => ⟨da, db, dp_of s rx na, dp_of s ry nb, sa, sb, q _ F H (Fr.refl s) (.bl _)⟩
theorem e_neD (ha : Ev K ta ρ da) (hb : Ev K tb ρ db) (na : da.hasDict = false) (nb : db.hasDict = false) (sa : SeqAt.shaped da = true) (sb : SeqAt.shaped db = true) : Ev K (tOp (rNeD K) ta tb) ρ (.bool (!PyData.eqv da db)) :=
  e_op ha hb fun F H x y s rx ry Q q => ⟨da, db, dp_of s rx na, dp_of s ry nb, sa, sb, q _ F H (Fr.refl s) (.bl _)⟩
theorem e_eqI {i j : Int} (ha : Ev K ta ρ (.int i)) (hb : Ev K tb ρ (.int j)) : Ev K (tOp rEq ta tb) ρ (.bool (decide (i = j))) :=
  e_op ha hb fun F H x y s rx ry Q q => by
    cases rx; cases ry
    refine ⟨rfl, ?_⟩
    have e : decide (V.int i = V.int j) = decide (i = j) := by rw [Bool.eq_iff_iff]; simp
    rw [e]
    exact q _ F H (Fr.refl s) (.bl _)
theorem e_neI {i j : Int} (ha : Ev K ta ρ (.int i)) (hb : Ev K tb ρ (.int j)) : Ev K (tOp rNe ta tb) ρ (.bool (!decide (i = j))) :=
  e_op ha hb fun F H x y s rx ry Q q => by
    cases rx; cases ry
    refine ⟨rfl, ?_⟩
    have e : decide (V.int i = V.int j) = decide (i = j) := by rw [Bool.eq_iff_iff]; simp
    rw [e]
    exact q _ F H (Fr.refl s) (.bl _)
theorem e_eqS {i j : Str} (ha : Ev K ta ρ (.str i)) (hb : Ev K tb ρ (.str j)) : Ev K (tOp rEq ta tb) ρ (.bool (decide (i = j))) :=
  e_op ha hb fun F H x y s rx ry Q q => by
    cases rx; cases ry
    refine ⟨rfl, ?_⟩
    have e : decide (V.str i = V.str j) = decide (i = j) := by rw [Bool.eq_iff_iff]; simp
    rw [e]
    exact q _ F H (Fr.refl s) (.bl _)
theorem e_neS {i j : Str} (ha : Ev K ta ρ (.str i)) (hb : Ev K tb ρ (.str j)) : Ev K (tOp rNe ta tb) ρ (.bool (!decide (i = j))) :=
  e_op ha hb fun F H x y s rx ry Q q => by
    cases rx; cases ry
    refine ⟨rfl, ?_⟩
    have e : decide (V.str i = V.str j) = decide (i = j) := by rw [Bool.eq_iff_iff]; simp
    rw [e]
    exact q _ F H (Fr.refl s) (.bl _)
/-! ### ints -/
theorem e_I0 {g : Int → Int → Int} {i j : Int} (ha : Ev K ta ρ (.int i)) (hb : Ev K tb ρ (.int j)) : Ev K (tOp (rI0 fun i j => .int (g i j)) ta tb) ρ (.int (g i j)) :=
  e_op ha hb fun F H x y s rx ry Q q => by
    cases rx; cases ry
    exact ⟨i, j, rfl, rfl, q _ F H (Fr.refl s) (.int _)⟩
theorem e_I {C : Int → Int → Prop} {g : Int → Int → Int} {i j : Int} (ha : Ev K ta ρ (.int i)) (hb : Ev K tb ρ (.int j)) (hc : C i j) : Ev K (tOp (rI C fun i j => .int (g i j)) ta tb) ρ (.int (g i j)) :=
  e_op ha hb fun F H x y s rx ry Q q => by
    cases rx; cases ry
    exact ⟨i, j, rfl, rfl, hc, q _ F H (Fr.refl s) (.int _)⟩
theorem e_B0 {g : Int → Int → Bool} {i j : Int} (ha : Ev K ta ρ (.int i)) (hb : Ev K tb ρ (.int j)) : Ev K (tOp (rI0 fun i j => .bl (g i j)) ta tb) ρ (.bool (g i j)) :=
  e_op ha hb fun F H x y s rx ry Q q => by
    cases rx; cases ry
    exact ⟨i, j, rfl, rfl, q _ F H (Fr.refl s) (.bl _)⟩
/-- a < b < c of ints -/
theorem e_chain {g g' : Int → Int → Bool} {tc : TE} {i j k : Int} (ha : Ev K ta ρ (.int i)) (hb : Ev K tb ρ (.int j)) (hc : Ev K tc ρ (.int k)) : Ev K (tChain (rI0 fun i j => .bl (g i j)) (rI0 fun i j => .bl (g' i j)) ta tb tc) ρ (.bool (g i j && g' j k)) := fun F H σ s sl Q q =>
  ha F H σ s sl _ fun x F1 H1 l1 r1 => hb F1 H1 σ l1.s (sl.mono l1.f) _ fun y F2 H2 l2 r2 => by
    cases r1; cases r2
    refine ⟨i, j, rfl, rfl, g i j, rfl, ?_⟩
    cases e : g i j with
    | true =>
      rw [if_pos rfl]
      refine hc F2 H2 σ l2.s (sl.mono (l1.f.trans l2.f)) _ fun z F3 H3 l3 r3 => ?_
      cases r3
      refine ⟨j, k, rfl, rfl, ?_⟩
      rw [e, Bool.true_and] at q
      exact q _ F3 H3 ((l1.trans l2).trans l3) (.bl _)
    | false =>
      rw [if_neg Bool.false_ne_true]
      rw [e, Bool.false_and] at q
      exact q _ F2 H2 (l1.trans l2) (.bl _)
/-! ### texts -/
theorem e_inSign {c : Nat} {z : Str} (ha : Ev K ta ρ (.str ⟨#[c]⟩)) (hb : Ev K tb ρ (.str z)) : Ev K (tOp (fun x y H Q => ∃ (c : Nat) (z : Str), x = .str ⟨#[c]⟩ ∧ y = .str z ∧ Q (.bl (decide (c ∈ z.cps.toList))) H) ta tb) ρ (.bool (decide (c ∈ z.cps.toList))) :=
  e_op ha hb fun F H x y s rx ry Q q => by
    cases rx; cases ry
    exact ⟨c, z, rfl, rfl, q _ F H (Fr.refl s) (.bl _)⟩
theorem e_notInSign {c : Nat} {z : Str} (ha : Ev K ta ρ (.str ⟨#[c]⟩)) (hb : Ev K tb ρ (.str z)) : Ev K (tOp (fun x y H Q => ∃ (c : Nat) (z : Str), x = .str ⟨#[c]⟩ ∧ y = .str z ∧ Q (.bl (!decide (c ∈ z.cps.toList))) H) ta tb) ρ (.bool (!decide (c ∈ z.cps.toList))) :=
  e_op ha hb fun F H x y s rx ry Q q => by
    cases rx; cases ry
    exact ⟨c, z, rfl, rfl, q _ F H (Fr.refl s) (.bl _)⟩
/-! ### in, flat things -/
def flatD : PyData → Bool
  | .none | .bool _ | .int _ | .str _ => true
  | _ => false
def vD : PyData → V
  | .none => .non
  | .bool b => .bl b
  | .int i => .int i
  | .str x => .str x
  | _ => .non
theorem flat_v {F : Hp} {d : PyData} {v : V} (h : Dat K F d v) (f : flatD d = true) : v = vD d ∧ flatV v = true := by
  cases h <;> first | exact ⟨rfl, rfl⟩ | cases f
theorem flat_vs {F : Hp} : ∀ {ds : List PyData} {vs : List V}, DatA K F ds vs → ds.all flatD = true → vs = ds.map vD ∧ vs.all flatV = true
  | _, _, .nil, _ => ⟨rfl, rfl⟩
  | _, _, .cons h t, f => by
    rw [List.all_cons, Bool.and_eq_true] at f
    obtain ⟨e1, f1⟩ := flat_v h f.1
    obtain ⟨e2, f2⟩ := flat_vs t f.2
    exact ⟨by rw [e1, e2]; rfl, by rw [List.all_cons, f1, f2]; rfl⟩
def inD (d : PyData) (ds : List PyData) : Bool := inV (vD d) (ds.map vD)
theorem e_in {neg : Bool} {ds : List PyData} (ha : Ev K ta ρ d) (hb : Ev K tb ρ (.list ds)) (f : flatD d = true) (fs : ds.all flatD = true) : Ev K (tOp (rIn K neg) ta tb) ρ (.bool (if neg then !inD d ds else inD d ds)) :=
  e_op ha hb fun F H x y s rx ry Q q => by
    cases ry with
    | lst hs hA =>
      obtain ⟨e1, f1⟩ := flat_v rx f
      obtain ⟨e2, f2⟩ := flat_vs hA fs
      refine ⟨_, _, rfl, .inl (sql_sub s hs), f1, f2, ?_⟩
      rw [e1, e2]
      exact q _ F H (Fr.refl s) (.bl _)
theorem e_inT {neg : Bool} {ds : List PyData} (ha : Ev K ta ρ d) (hb : Ev K tb ρ (.tuple ds)) (f : flatD d = true) (fs : ds.all flatD = true) : Ev K (tOp (rIn K neg) ta tb) ρ (.bool (if neg then !inD d ds else inD d ds)) :=
  e_op ha hb fun F H x y s rx ry Q q => by
    cases ry with
    | tup hs hA =>
      obtain ⟨e1, f1⟩ := flat_v rx f
      obtain ⟨e2, f2⟩ := flat_vs hA fs
      refine ⟨_, _, rfl, .inr (sqt_sub s hs), f1, f2, ?_⟩
      rw [e1, e2]
      exact q _ F H (Fr.refl s) (.bl _)
theorem inD_str {x : Str} : ∀ {xs : List Str}, inD (.str x) (xs.map PyData.str) = decide (x ∈ xs)
  | [] => by rfl
  | y :: ys => by
    have ih := inD_str (x := x) (xs := ys)
    unfold inD inV at ih ⊢
    rw [List.map_cons, List.map_cons, List.any_cons, ih]
    show ((y == x) || _) = _
    by_cases e : y = x
    · subst e; simp
    · have : (y == x) = false := by simpa using e
      rw [this, Bool.false_or, Bool.eq_iff_iff]
      simp [Ne.symm e]
theorem flat_strs (xs : List Str) : (xs.map PyData.str).all flatD = true := by
  rw [List.all_map]; exact List.all_eq_true.mpr fun _ _ => rfl
/-! ### items -/
theorem e_ixL {ds : List PyData} {i : Int} (ha : Ev K ta ρ (.list ds)) (hb : Ev K tb ρ (.int i)) (h : atI ds i = some d) : Ev K (tOp (rIxL K) ta tb) ρ d :=
  e_op ha hb fun F H x y s rx ry Q q => by
    cases ry
    cases rx with
    | lst hs hA =>
      unfold atI at h
      rw [hA.length] at h
      cases e : ixN _ i with
      | none => rw [e] at h; cases h
      | some j =>
        rw [e] at h
        obtain ⟨v, hv, hd⟩ := hA.getD (show _ = some d from h)
        exact ⟨_, _, i, v, rfl, rfl, sql_sub s hs, by unfold atI; rw [e]; exact hv, q _ F H (Fr.refl s) hd⟩
theorem e_ixT {ds : List PyData} {i : Int} (ha : Ev K ta ρ (.tuple ds)) (hb : Ev K tb ρ (.int i)) (h : atI ds i = some d) : Ev K (tOp (rIxT K) ta tb) ρ d :=
  e_op ha hb fun F H x y s rx ry Q q => by
    cases ry
    cases rx with
    | tup hs hA =>
      unfold atI at h
      rw [hA.length] at h
      cases e : ixN _ i with
      | none => rw [e] at h; cases h
      | some j =>
        rw [e] at h
        obtain ⟨v, hv, hd⟩ := hA.getD (show _ = some d from h)
        exact ⟨_, _, i, v, rfl, rfl, sqt_sub s hs, by unfold atI; rw [e]; exact hv, q _ F H (Fr.refl s) hd⟩
end
end LK

set_option Elab.async false
set_option linter.all false
set_option maxRecDepth 100000
set_option maxHeartbeats 1000000
/-! LK3: what is walked; loops; list comprehensions. -/
namespace LK
open PySem PySem.Spec PyProof.Rows L2

theorem wipe_get (σ : L2.St) : ∀ (vs : List Nat) (i : Nat), (L2.wipe σ vs)[i]? = if i ∈ vs ∧ i < σ.length then some none else σ[i]?
  | [], i => by simp [L2.wipe]
  | v :: vs, i => by
    have ih := wipe_get σ vs i
    show ((L2.wipe σ vs).set v none)[i]? = _
    by_cases e : v = i
    · subst e
      by_cases h : v < σ.length
      · rw [List.getElem?_set_self (by rw [L2.wipe_length]; exact h), if_pos ⟨List.mem_cons_self .., h⟩]
      · rw [if_neg (fun z => h z.2), List.getElem?_eq_none (by simp [L2.wipe_length]; omega), List.getElem?_eq_none (by omega)]
    · rw [List.getElem?_set_ne e, ih]
      simp [Ne.symm e]
theorem wipe_out {vs ns : List Nat} {σ σ' : L2.St} (o : Out ns σ σ') (h : ∀ i ∈ ns, i ∈ vs) : L2.wipe σ' vs = L2.wipe σ vs := by
  apply List.ext_getElem?
  intro i
  rw [wipe_get, wipe_get, o.1]
  by_cases c : i ∈ vs ∧ i < σ.length
  · rw [if_pos c, if_pos c]
  · rw [if_neg c, if_neg c]
    by_cases hi : i ∈ ns
    · have hl : ¬ i < σ.length := fun z => c ⟨h i hi, z⟩
      rw [List.getElem?_eq_none (by rw [o.1]; omega), List.getElem?_eq_none (by omega)]
    · exact o.2 i hi
theorem wipe_wipe (σ : L2.St) (vs : List Nat) : L2.wipe (L2.wipe σ vs) vs = L2.wipe σ vs :=
  wipe_out (ns := vs) ⟨L2.wipe_length σ vs, fun i h => by rw [wipe_get, if_neg (fun z => h z.1)]⟩ fun _ h => h

/-! ### what is walked -/
/-- from any state that has F in it, the walk yields the data ds, one by one -/
structure Yl (K : PySem.W.Frag) (F : Hp) (T : It) (ds : List PyData) : Prop where
  go : ∀ F1 H1, Sub F F1 → Sub F1 H1 → ∀ i d, ds[i]? = some d → T.go i H1
  yld : ∀ F1 H1, Sub F F1 → Sub F1 H1 → ∀ i d, ds[i]? = some d → ∀ x H', T.yld i H1 x H' → ∃ F', Le F1 H1 F' H' ∧ Dat K F' d x
  stop : ∀ F1 H1, Sub F F1 → Sub F1 H1 → T.stop ds.length H1
theorem Yl.mono {K : PySem.W.Frag} {F F' : Hp} {T : It} {ds : List PyData} (y : Yl K F T ds) (e : Sub F F') : Yl K F' T ds :=
  ⟨fun F1 H1 a b => y.go F1 H1 (e.trans a) b, fun F1 H1 a b => y.yld F1 H1 (e.trans a) b, fun F1 H1 a b => y.stop F1 H1 (e.trans a) b⟩
def Src (K : PySem.W.Frag) (wi : TI) (ρ : Ro) (ds : List PyData) : Prop := ∀ F H σ, Sub F H → SlOk F σ ρ → ∀ R : It → Hp → Prop, (∀ T F2 H2, Le F H F2 H2 → Yl K F2 T ds → R T H2) → wi σ H R
/-- .. that may change S -/
def SrcS (K : PySem.W.Frag) (S : Addr → Prop) (J : JP) (wi : TI) (ρ : Ro) (G : List PyData → JP) : Prop := ∀ F H σ, Sub F H → J F H → SlOk F σ ρ → ∀ R : It → Hp → Prop, (∀ ds T F2 H2, Fr S F H F2 H2 → G ds F2 H2 → Yl K F2 T ds → R T H2) → wi σ H R
theorem SrcS.of {K : PySem.W.Frag} {S : Addr → Prop} {J : JP} {wi : TI} {ρ : Ro} {ds : List PyData} (h : Src K wi ρ ds) (c : Cl J) : SrcS K S J wi ρ (fun ds' F H => ds' = ds ∧ J F H) := fun F H σ s j sl R q =>
  h F H σ s sl R fun T F2 H2 l y => q ds T F2 H2 l.up ⟨rfl, c F H F2 H2 l j⟩ y
section
variable {K : PySem.W.Frag} {ρ : Ro} {te : TE} {ta : TA} {ds : List PyData}
theorem src_list (h : Ev K te ρ (.list ds)) : Src K (iList K te) ρ ds := fun F H σ s sl R q => h F H σ s sl _ fun v F1 H1 l1 r1 => by
  cases r1 with
  | @lst a xs _ hs ha =>
    refine ⟨a, rfl, ⟨xs, sql_sub l1.s hs⟩, q _ F1 H1 l1 ⟨fun F2 H2 e1 e2 i d hd => ?_, fun F2 H2 e1 e2 i d hd x H' y => ?_, fun F2 H2 e1 e2 => ?_⟩⟩
    · obtain ⟨v, hv, _⟩ := ha.getD hd
      exact ⟨xs, v, sql_sub (e1.trans e2) hs, hv⟩
    · obtain ⟨v, hv, dv⟩ := ha.getD hd
      obtain ⟨rfl, hx⟩ := y
      have e := hx xs (sql_sub (e1.trans e2) hs)
      rw [hv] at e
      cases e
      exact ⟨F2, Fr.refl e2, dv.mono e1⟩
    · exact ⟨xs, sql_sub (e1.trans e2) hs, by rw [ha.length]; exact Nat.le_refl _⟩
theorem src_tup (h : Ev K te ρ (.tuple ds)) : Src K (iTup K te) ρ ds := fun F H σ s sl R q => h F H σ s sl _ fun v F1 H1 l1 r1 => by
  cases r1 with
  | @tup a xs _ hs ha =>
    refine ⟨a, rfl, ⟨xs, sqt_sub l1.s hs⟩, q _ F1 H1 l1 ⟨fun F2 H2 e1 e2 i d hd => ?_, fun F2 H2 e1 e2 i d hd x H' y => ?_, fun F2 H2 e1 e2 => ?_⟩⟩
    · obtain ⟨v, hv, _⟩ := ha.getD hd
      exact ⟨xs, v, sqt_sub (e1.trans e2) hs, hv⟩
    · obtain ⟨v, hv, dv⟩ := ha.getD hd
      obtain ⟨rfl, hx⟩ := y
      have e := hx xs (sqt_sub (e1.trans e2) hs)
      rw [hv] at e
      cases e
      exact ⟨F2, Fr.refl e2, dv.mono e1⟩
    · exact ⟨xs, sqt_sub (e1.trans e2) hs, by rw [ha.length]; exact Nat.le_refl _⟩
def signs (x : Str) : List PyData := x.cps.toList.map fun c => .str ⟨#[c]⟩
theorem signs_get {x : Str} {i : Nat} {d : PyData} (h : (signs x)[i]? = some d) : ∃ c, x.cps[i]? = some c ∧ d = .str ⟨#[c]⟩ := by
  unfold signs at h
  rw [List.getElem?_map] at h
  obtain ⟨c, hc, e⟩ := Option.map_eq_some_iff.mp h
  exact ⟨c, by simpa using hc, e.symm⟩
theorem src_str {x : Str} (h : Ev K te ρ (.str x)) : Src K (iStr te) ρ (signs x) := fun F H σ s sl R q => h F H σ s sl _ fun v F1 H1 l1 r1 => by
  cases r1
  refine ⟨x, rfl, q _ F1 H1 l1 ⟨fun F2 H2 e1 e2 i d hd => ?_, fun F2 H2 e1 e2 i d hd y H' z => ?_, fun F2 H2 e1 e2 => ?_⟩⟩
  · obtain ⟨c, hc, _⟩ := signs_get hd
    exact (Array.getElem?_eq_some_iff.mp hc).1
  · obtain ⟨c, hc, rfl⟩ := signs_get hd
    obtain ⟨rfl, c', hc', rfl⟩ := z
    rw [hc] at hc'
    cases hc'
    exact ⟨F2, Fr.refl e2, .str _⟩
  · show x.cps.size ≤ (signs x).length
    unfold signs
    simp
def rngD (lo : Int) (n : Nat) : List PyData := (List.range n).map fun i : Nat => .int (lo + (i : Int))
theorem rngD_get {lo : Int} {n i : Nat} {d : PyData} (h : (rngD lo n)[i]? = some d) : i < n ∧ d = .int (lo + (i : Int)) := by
  unfold rngD at h
  rw [List.getElem?_map] at h
  obtain ⟨c, hc, e⟩ := Option.map_eq_some_iff.mp h
  obtain ⟨h1, h2⟩ := List.getElem?_eq_some_iff.mp hc
  have h3 : i = c := by simpa using h2
  subst h3
  exact ⟨by simpa using h1, e.symm⟩
theorem rngD_len (lo : Int) (n : Nat) : (rngD lo n).length = n := by simp [rngD]
theorem yl_rng {F : Hp} (lo : Int) (n : Nat) : Yl K F (Itr lo n) (rngD lo n) := ⟨fun F2 H2 e1 e2 i d hd => (rngD_get hd).1, fun F2 H2 e1 e2 i d hd x H' y => by
    obtain ⟨hi, rfl⟩ := rngD_get hd
    obtain ⟨rfl, rfl⟩ := y
    exact ⟨F2, Fr.refl e2, .int _⟩, fun F2 H2 e1 e2 => by show n ≤ _; rw [rngD_len]; exact Nat.le_refl _⟩
theorem src_rng1 {n : Int} (h : EvAD K ta ρ [.int n]) (h1 : -(2 ^ 62) ≤ n := by decide) (h2 : n < 2 ^ 62 := by decide) : Src K (iRng1 ta) ρ (rngD 0 n.toNat) := fun F H σ s sl R q => h F H σ s sl _ fun vs F1 H1 l1 r1 => by
  cases r1 with
  | cons a b =>
    cases a; cases b
    exact ⟨n, rfl, h1, h2, q _ F1 H1 l1 (yl_rng 0 _)⟩
theorem src_rng2 {m n : Int} (h : EvAD K ta ρ [.int m, .int n]) (h1 : -(2 ^ 62) ≤ m ∧ m < 2 ^ 62 ∧ -(2 ^ 62) ≤ n ∧ n < 2 ^ 62) : Src K (iRng2 ta) ρ (rngD m (n - m).toNat) := fun F H σ s sl R q => h F H σ s sl _ fun vs F1 H1 l1 r1 => by
  cases r1 with
  | cons a b =>
    cases b with
    | cons b c =>
      cases a; cases b; cases c
      exact ⟨m, n, rfl, h1, q _ F1 H1 l1 (yl_rng m _)⟩
/-- range(m, -1, -1) and its like -/
def intsC (lo c : Int) (n : Nat) : List PyData := (List.range n).map fun i : Nat => .int (lo + (i : Int) * c)
theorem intsC_get {lo c : Int} {n i : Nat} {d : PyData} (h : (intsC lo c n)[i]? = some d) : i < n ∧ d = .int (lo + (i : Int) * c) := by
  unfold intsC at h
  rw [List.getElem?_map] at h
  obtain ⟨c, hc, e⟩ := Option.map_eq_some_iff.mp h
  obtain ⟨h1, h2⟩ := List.getElem?_eq_some_iff.mp hc
  have h3 : i = c := by simpa using h2
  subst h3
  exact ⟨by simpa using h1, e.symm⟩
theorem src_rng3 {i j c : Int} {n : Nat} (h : EvAD K ta ρ [.int i, .int j, .int c]) (hr : RgC i j c n) : Src K (iRng3 ta) ρ (intsC i c n) := fun F H σ s sl R q => h F H σ s sl _ fun vs F1 H1 l1 r1 => by
  cases r1 with
  | cons x y =>
    cases y with
    | cons y z =>
      cases z with
      | cons z t =>
        cases x; cases y; cases z; cases t
        refine ⟨i, j, c, n, rfl, hr, q _ F1 H1 l1 ⟨fun F2 H2 e1 e2 i d hd => (intsC_get hd).1, fun F2 H2 e1 e2 i d hd x H' y => ?_, fun F2 H2 e1 e2 => ?_⟩⟩
        · obtain ⟨hi, rfl⟩ := intsC_get hd
          obtain ⟨rfl, rfl⟩ := y
          exact ⟨F2, Fr.refl e2, .int _⟩
        · show n ≤ _
          simp [intsC]
def enumD (k : Nat) : List PyData → List PyData
  | [] => []
  | d :: ds => .tuple [.int k, d] :: enumD (k + 1) ds
theorem enumD_len : ∀ (k : Nat) (ds : List PyData), (enumD k ds).length = ds.length
  | _, [] => rfl
  | k, d :: ds => by unfold enumD; rw [List.length_cons, List.length_cons, enumD_len]
theorem enumD_get : ∀ {k : Nat} {ds : List PyData} {i : Nat} {e : PyData}, (enumD k ds)[i]? = some e → ∃ d, ds[i]? = some d ∧ e = .tuple [.int ((k + i : Nat) : Int), d]
  | _, [], _, _, h => by simp [enumD] at h
  | k, d :: ds, 0, e, h => by
    have : e = .tuple [.int k, d] := by simpa [enumD, eq_comm] using h
    exact ⟨d, by simp, by rw [this]; rfl⟩
  | k, d :: ds, i + 1, e, h => by
    obtain ⟨d', h1, h2⟩ := enumD_get (k := k + 1) (ds := ds) (i := i) (e := e) (by simpa [enumD] using h)
    exact ⟨d', by simpa using h1, by rw [h2, show k + 1 + i = k + (i + 1) by omega]⟩
theorem src_enum (h : EvAD K ta ρ [.list ds]) : Src K (iEnum K ta) ρ (enumD 0 ds) := fun F H σ s sl R q => h F H σ s sl _ fun vs F1 H1 l1 r1 => by
  cases r1 with
  | cons x y =>
    cases y
    cases x with
    | @lst a xs _ hs ha =>
      refine ⟨a, xs, rfl, sql_sub l1.s hs, q _ F1 H1 l1 ⟨fun F2 H2 e1 e2 i d hd => ?_, fun F2 H2 e1 e2 i d hd x H' y => ?_, fun F2 H2 e1 e2 => ?_⟩⟩
      · obtain ⟨d', h1, _⟩ := enumD_get hd
        obtain ⟨v, hv, _⟩ := ha.getD h1
        exact ⟨xs, v, sql_sub (e1.trans e2) hs, hv⟩
      · obtain ⟨d', h1, rfl⟩ := enumD_get hd
        obtain ⟨v, hv, dv⟩ := ha.getD h1
        obtain ⟨T, x', rfl, hT, rfl, hx⟩ := y
        have e := hx xs (sql_sub (e1.trans e2) hs)
        rw [hv] at e
        cases e
        refine ⟨_, Le.new e2 hT, .tup (SqT.of upd_same) (.cons ?_ (.cons (dv.mono (e1.trans (Sub.new (e2.none hT)))) .nil))⟩
        rw [Nat.zero_add]
        exact .int _
      · exact ⟨xs, sql_sub (e1.trans e2) hs, by rw [enumD_len, ha.length]; exact Nat.le_refl _⟩
end

/-! ### for -/
section
variable {K : PySem.W.Frag} {S : Addr → Prop} {J : JP} {wi : TI} {g : TG} {tb u : TS} {ρ : Ro} {Nx : Ro → JP} {R : V → JP} {ds : List PyData} {ns : List Nat}
/-- I i: what holds ahead of turn i -/
theorem s_forS {G : List PyData → JP} {up : PyData → Ro → Ro} (hs : SrcS K S J wi ρ G) (hg : ∀ d, GtD K g d ns (up d)) (I : List PyData → Nat → Ro → JP) (h0 : ∀ ds F H, G ds F H → I ds 0 ρ F H)
    (cl : ∀ ds i ρ', Cl (I ds i ρ')) (hb : ∀ ds i d ρ', ds[i]? = some d → St S (I ds i ρ') tb (up d ρ') (fun ρ2 => I ds (i + 1) ρ2) R) (hn : ∀ ds ρ' F H, I ds ds.length ρ' F H → Nx ρ' F H) : St S J (tFor wi g tb) ρ Nx R := fun F H σ s j sl D hr hnx =>
  hs F H σ s j sl _ fun ds T F1 H1 l1 g1 y => by
    refine ⟨fun i m σ' H' => m = ds.length - i ∧ i ≤ ds.length ∧ ∃ F' ρ', Fr S F H F' H' ∧ Sub F1 F' ∧ I ds i ρ' F' H' ∧ SlOk F' σ' ρ', ⟨ds.length, by simp, Nat.zero_le _, F1, ρ, l1, Sub.refl F1, h0 ds F1 H1 g1, sl.mono l1.f⟩, ?_⟩
    rintro i m σ' H' ⟨rfl, hi, F', ρ', l', sub, hI, sl'⟩
    by_cases hlt : i < ds.length
    · have hd : ds[i]? = some ds[i] := List.getElem?_eq_getElem hlt
      refine .inr ⟨y.go F' H' sub l'.s i _ hd, fun σ2 H2 => i + 1 ≤ ds.length ∧ ∃ F2 ρ2, Fr S F H F2 H2 ∧ Sub F1 F2 ∧ I ds (i + 1) ρ2 F2 H2 ∧ SlOk F2 σ2 ρ2, fun σ2 H2 ⟨h1, h2⟩ => ⟨ds.length - (i + 1), by omega, rfl, h1, h2⟩, fun x H2 yl => ?_⟩
      obtain ⟨F2, l2, dx⟩ := y.yld F' H' sub l'.s i _ hd x H2 yl
      refine hg _ F2 x σ' ρ' H2 l2.s dx (sl'.mono l2.f) _ fun σ3 sl3 _ => ?_
      refine hb ds i _ ρ' hd F2 H2 σ3 l2.s (cl ds i ρ' F' H' F2 H2 l2 hI) sl3 _ (fun v F4 H4 l4 r4 => hr v F4 H4 ((l'.trans l2.up).trans l4) r4) fun ρ4 σ4 F4 H4 l4 n4 sl4 => ?_
      exact ⟨hlt, F4, ρ4, (l'.trans l2.up).trans l4, (sub.trans l2.f).trans l4.f, n4, sl4⟩
    · have e : i = ds.length := by omega
      subst e
      exact .inl ⟨y.stop F' H' sub l'.s, hnx ρ' σ' F' H' l' (hn ds ρ' F' H' hI) sl'⟩
/-- the walked is pure -/
theorem s_for {up : PyData → Ro → Ro} (hs : Src K wi ρ ds) (c : Cl J) (hg : ∀ d, GtD K g d ns (up d)) (I : Nat → Ro → JP) (h0 : ∀ F H, J F H → I 0 ρ F H)
    (cl : ∀ i ρ', Cl (I i ρ')) (hb : ∀ i d ρ', ds[i]? = some d → St S (I i ρ') tb (up d ρ') (fun ρ2 => I (i + 1) ρ2) R) (hn : ∀ ρ' F H, I ds.length ρ' F H → Nx ρ' F H) : St S J (tFor wi g tb) ρ Nx R :=
  s_forS (SrcS.of hs c) hg (fun ds' i ρ' F H => ds' = ds ∧ I i ρ' F H) (fun ds' F H q => ⟨q.1, h0 F H q.2⟩) (fun ds' i ρ' F H F2 H2 l q => ⟨q.1, cl i ρ' F H F2 H2 l q.2⟩)
    (fun ds' i d ρ' hd => St.get (P := ds' = ds) (fun e => by
      subst e
      exact ((hb i d ρ' hd).pre fun F H q => q.2).imp (fun _ _ _ r => r) fun ρ2 F H q => ⟨rfl, q⟩) fun F H q => q.1) fun ds' ρ' F H q => by
      obtain ⟨e, q⟩ := q
      subst e
      exact hn ρ' F H q
end

/-! ### what hangs on S alone -/
def Dep (S : Addr → Prop) (J : JP) : Prop := ∀ F H F2 H2, Sub F F2 → (∀ a o, S a → H a = some o → H2 a = some o ∧ (F a = none → F2 a = none)) → J F H → J F2 H2
theorem Dep.cl {S : Addr → Prop} {J : JP} (d : Dep S J) : Cl J := fun F H F2 H2 l j => d F H F2 H2 l.f (fun a o _ e => ⟨l.h a o e (fun z => z), l.n a o e⟩) j
theorem Dep.T {S : Addr → Prop} : Dep S JT := fun _ _ _ _ _ _ _ => trivial
/-- S's objects are there -/
def Here (S : Addr → Prop) (J : JP) : Prop := ∀ F H, J F H → ∀ a, S a → ∃ o, H a = some o
theorem here0 {J : JP} : Here S0 J := fun _ _ _ _ z => z.elim
theorem Fr.mutNew {S : Addr → Prop} {F H F1 H1 : Hp} {p : Addr} {o : HO} (x : Fr S F H F1 H1) (h : H p = none) (hf : F1 p = none) : Fr S F H F1 (upd H1 p o) :=
  ⟨x.f, x.s.mut hf, fun a u e n => by rw [upd_ne (ne_of_none e h)]; exact x.h a u e n, x.n, fun a u e => by
    obtain ⟨u', e'⟩ := x.g a u e
    exact ⟨u', by rw [upd_ne (ne_of_none e h)]; exact e'⟩, x.t⟩
theorem Fr.freezeNew {S : Addr → Prop} {F H F1 H1 : Hp} {p : Addr} {o : HO} (s : Sub F H) (x : Fr S F H F1 H1) (h : H p = none) (e : H1 p = some o) (ho : ∀ ps, o ≠ .tbl ps := by intro _ z; cases z) : Fr S F H (upd F1 p o) H1 :=
  ⟨fun a u q => by
    rw [upd_ne (ne_of_none q (s.none h))]
    exact x.f a u q, Le.freeze x.s e, x.h, fun a u q n => by rw [upd_ne (ne_of_none q h)]; exact x.n a u q n, x.g, fun z => (x.t z).upd ho⟩

/-! ### list comprehensions -/
section
variable {K : PySem.W.Frag} {S : Addr → Prop} {J : JP} {wi : TI} {g : TG} {tt : TT} {te : TE} {ρ : Ro} {ds : List PyData} {ns vs : List Nat}
theorem sz_lt {n : Nat} (h : n ≤ 100000) : n < sizeLine := Nat.lt_of_le_of_lt h (by decide)
/-- I i acc: what holds ahead of turn i, acc what is made so far -/
theorem es_lc {G : List PyData → JP} {up : PyData → Ro → Ro} (here : Here S J) (hs : SrcS K S J wi ρ G) (hg : ∀ d, GtD K g d ns (up d)) (hv : ∀ i ∈ ns, i ∈ vs) (I : List PyData → Nat → List PyData → JP) (h0 : ∀ ds F H, G ds F H → I ds 0 [] F H)
    (dep : ∀ ds i acc, Dep S (I ds i acc)) (hz : ∀ ds i acc F H, I ds i acc F H → acc.length < sizeLine)
    (Tb : List PyData → Nat → List PyData → Bool → JP) (ht : ∀ ds i d acc, ds[i]? = some d → EvSB S (I ds i acc) tt (up d (wipeR ρ vs)) (Tb ds i acc)) (hT : ∀ ds i acc F H, Tb ds i acc false F H → I ds (i + 1) acc F H)
    (he : ∀ ds i d acc, ds[i]? = some d → EvS S (Tb ds i acc true) te (up d (wipeR ρ vs)) (fun v F H => ∃ e, Dat K F e v ∧ I ds (i + 1) (acc ++ [e]) F H)) :
    EvS S J (tLc wi g tt te vs) ρ (fun v F H => ∃ ds acc, Dat K F (.list acc) v ∧ I ds ds.length acc F H) := fun F H σ s j sl Q q =>
  hs F H σ s j sl _ fun ds T F1 H1 l1 g1 y Dl hD => by
    have nS : ¬ S Dl := fun z => by
      obtain ⟨o, e⟩ := here F H j Dl z
      obtain ⟨o', e'⟩ := l1.g Dl o e
      rw [hD] at e'; cases e'
    have nH : H Dl = none := by
      cases e : H Dl with
      | none => rfl
      | some o =>
        obtain ⟨o', e'⟩ := l1.g Dl o e
        rw [hD] at e'; cases e'
    have hSne : ∀ {F' H' : Hp} (u : HO) a o, S a → H' a = some o → upd H' Dl u a = some o ∧ (F' a = none → F' a = none) := fun {F' H'} u a o z e => ⟨by rw [upd_ne (fun w => nS (by rw [← w]; exact z))]; exact e, fun w => w⟩
    refine ⟨fun i m H' => m = ds.length - i ∧ i ≤ ds.length ∧ ∃ F' acc xs, Fr S F1 H1 F' H' ∧ F' Dl = none ∧ H' Dl = some (.lst xs) ∧ DatA K F' acc xs ∧ I ds i acc F' H',
      ⟨ds.length, by simp, Nat.zero_le _, F1, [], [], (Le.newM l1.s hD).up, l1.s.none hD, upd_same, .nil, dep ds 0 [] F1 H1 F1 _ (Sub.refl F1) (hSne _) (h0 ds F1 H1 g1)⟩, ?_⟩
    rintro i m H' ⟨rfl, hi, F', acc, xs, l', nF, hDl, hA, hI⟩
    by_cases hlt : i < ds.length
    · have hd : ds[i]? = some ds[i] := List.getElem?_eq_getElem hlt
      refine .inr ⟨y.go F' H' l'.f l'.s i _ hd, fun H2 => i + 1 ≤ ds.length ∧ ∃ F2 acc xs, Fr S F1 H1 F2 H2 ∧ F2 Dl = none ∧ H2 Dl = some (.lst xs) ∧ DatA K F2 acc xs ∧ I ds (i + 1) acc F2 H2, fun H2 ⟨h1, h2⟩ => ⟨ds.length - (i + 1), by omega, rfl, h1, h2⟩, fun x H2 yl => ?_⟩
      obtain ⟨F2, l2, dx⟩ := y.yld F' H' l'.f l'.s i _ hd x H2 yl
      refine hg _ F2 x _ (wipeR ρ vs) H2 l2.s dx (((sl.mono l1.f).wipe vs).mono (l'.f.trans l2.f)) _ fun σ3 sl3 o3 => ⟨(wipe_out o3 hv).trans (wipe_wipe σ vs), ?_⟩
      refine ht ds i _ acc hd F2 H2 σ3 l2.s ((dep ds i acc).cl F' H' F2 H2 l2 hI) sl3 _ fun b F3 H3 l3 tb => ?_
      have l03 := (l'.trans l2.up).trans l3
      have d3 : H3 Dl = some (.lst xs) := l3.h Dl _ (l2.h Dl _ hDl (fun z => z)) nS
      have n3 : F3 Dl = none := l3.n Dl _ (l2.h Dl _ hDl (fun z => z)) (l2.n Dl _ hDl nF)
      cases b with
      | false =>
        rw [if_neg Bool.false_ne_true]
        exact ⟨hlt, F3, acc, xs, l03, n3, d3, hA.mono (l2.f.trans l3.f), hT ds i acc F3 H3 tb⟩
      | true =>
        rw [if_pos rfl]
        refine he ds i _ acc hd F3 H3 σ3 l3.s tb (sl3.mono l3.f) _ fun v F4 H4 l4 ⟨e, de, hI4⟩ => ?_
        have d4 : H4 Dl = some (.lst xs) := l4.h Dl _ d3 nS
        have n4 : F4 Dl = none := l4.n Dl _ d3 n3
        have z4 := hz ds (i + 1) (acc ++ [e]) F4 H4 hI4
        rw [List.length_append, List.length_singleton] at z4
        have hA4 : DatA K F4 acc xs := hA.mono ((l2.f.trans l3.f).trans l4.f)
        refine ⟨xs, d4, by rw [← hA4.length]; omega, hlt, F4, acc ++ [e], xs ++ [v], (l03.trans l4).mutNew hD n4, n4, upd_same, hA4.app (.cons de .nil), dep ds (i + 1) _ F4 H4 F4 _ (Sub.refl F4) (hSne _) hI4⟩
    · have e : i = ds.length := by omega
      subst e
      refine .inl ⟨y.stop F' H' l'.f l'.s, ?_⟩
      refine q (.ref Dl) (upd F' Dl (.lst xs)) H' ((l1.trans l').freezeNew s nH hDl) ⟨ds, acc, .lst (SqL.of upd_same) (hA.mono (Sub.new nF)), ?_⟩
      exact dep ds ds.length acc F' H' _ H' (Sub.new nF) (fun a o z e => ⟨e, fun w => by rw [upd_ne (fun k => nS (by rw [← k]; exact z))]; exact w⟩) hI
/-- pure: the items that pass f, through h -/
theorem e_lc {up : PyData → Ro → Ro} (f : PyData → Bool) (h : PyData → PyData) (hs : Src K wi ρ ds) (hg : ∀ d, GtD K g d ns (up d)) (hv : ∀ i ∈ ns, i ∈ vs) (hz : ds.length < sizeLine)
    (ht : ∀ d ∈ ds, EvB tt (up d (wipeR ρ vs)) (f d)) (he : ∀ d ∈ ds, f d = true → Ev K te (up d (wipeR ρ vs)) (h d)) : Ev K (tLc wi g tt te vs) ρ (.list ((ds.filter f).map h)) := by
  have key := es_lc (K := K) (S := S0) (J := JT) (tt := tt) (te := te) (vs := vs) here0 (SrcS.of hs cl_T) hg hv (fun ds' i acc _ _ => ds' = ds ∧ acc = ((ds.take i).filter f).map h) (fun ds' F H q => ⟨q.1, by simp⟩)
    (fun _ _ _ _ _ _ _ _ _ q => q) (fun ds' i acc F H q => by
      rw [q.2, List.length_map]
      exact Nat.lt_of_le_of_lt (Nat.le_trans (List.length_filter_le _ _) (by rw [List.length_take]; exact Nat.min_le_right _ _)) hz)
    (fun ds' i acc b _ _ => ds' = ds ∧ acc = ((ds.take i).filter f).map h ∧ ∃ d, ds[i]? = some d ∧ f d = b) (fun ds' i d acc hd F H σ s j sl Q q => by
      obtain ⟨e, ea⟩ := j
      subst e
      exact ht d (List.mem_of_getElem? hd) F H σ s sl Q fun F2 H2 l => q _ F2 H2 l ⟨rfl, ea, d, hd, rfl⟩)
    (fun ds' i acc F H ⟨e, ea, d, hd, hf⟩ => ⟨e, by
      obtain ⟨h1, h2⟩ := List.getElem?_eq_some_iff.mp hd
      rw [ea, List.take_succ, hd]
      simp [hf]⟩)
    (fun ds' i d acc hd F H σ s j sl Q q => by
      obtain ⟨e, ea, d', hd', hf⟩ := j
      subst e
      rw [hd] at hd'
      cases hd'
      refine he d (List.mem_of_getElem? hd) hf F H σ s sl Q fun v F2 H2 l r => q v F2 H2 l ⟨h d, r, rfl, ?_⟩
      rw [ea, List.take_succ, hd]
      simp [hf])
  intro F H σ s sl Q q
  refine key F H σ s trivial sl Q fun v F2 H2 l ⟨ds', acc, r, e, ea⟩ => q v F2 H2 l ?_
  subst e
  rw [ea, List.take_length] at r
  exact r
theorem b_yes : EvB tYes ρ true := fun F H σ s sl Q q => q F H (Fr.refl s)
/-- no test -/
theorem e_lcm {up : PyData → Ro → Ro} (h : PyData → PyData) (hs : Src K wi ρ ds) (hg : ∀ d, GtD K g d ns (up d)) (hv : ∀ i ∈ ns, i ∈ vs) (hz : ds.length < sizeLine)
    (he : ∀ d ∈ ds, Ev K te (up d (wipeR ρ vs)) (h d)) : Ev K (tLc wi g tYes te vs) ρ (.list (ds.map h)) :=
  (e_lc (fun _ => true) h hs hg hv hz (fun _ _ => b_yes) (fun d m _ => he d m)).is (by rw [List.filter_eq_self.mpr (fun _ _ => rfl)])
end
end LK

set_option Elab.async false
set_option linter.all false
set_option maxRecDepth 100000
set_option maxHeartbeats 2000000
/-! LKE: enumerate over a tuple; a walk over a list or a tuple. -/
namespace PySem
open Sem (wp)
theorem lk_enum_new {v : Value} {o : Obj} {H : Heap → Prop} (B : Begins v o H) :
    Meets (Builtin.«enumerate.__new__» ⟨[.type "enumerate", v], []⟩) (fun _ R s => H s.heap ∧
      R (.ok (.ret (.ref (s.heap.push o).objs.size))) { s with heap := (s.heap.push o).push { cls := .type "enumerate", data := .fields #[.none, .bool false, .ref s.heap.objs.size, rawInt 0, .none, .none] } }) :=
  .of_wp fun prog w A R s h => by
    obtain ⟨hp, g, d, tk, os⟩ := s; obtain ⟨h1, h⟩ := h
    have hsub := sub_enumerate
    have q1 : ∀ {A' : Around} {E : Value → Shared → Prop} {Q : Value → Shared → Prop}, Q (.ref hp.objs.size) ⟨hp.push o, g, d, tk, os⟩ → wpAny (model prog w) A' (pyIter v) Q E ⟨hp, g, d, tk, os⟩ :=
      fun q => B.iter prog w _ _ ⟨hp, g, d, tk, os⟩ _ h1 q
    wp_walk using q1
    refine wpAny_stack_any fun st => wpAny_pure ?_
    split
    · rename_i c _ _ _ _ _
      cases (c == Value.type "enumerate")
      · wp_walk using q1
        exact ⟨_, rfl, h⟩
      · wp_walk using q1
        exact ⟨_, rfl, h⟩
    · wp_walk using q1
      exact ⟨_, rfl, h⟩
section
variable {prog : Program} {w : World} {A : Around} {E : Value → Shared → Prop} {s : Shared}
theorem lk_call_enum {v : Value} {o : Obj} {H : Heap → Prop} {Q : Value → Shared → Prop} (B : Begins v o H) (h1 : H s.heap)
    (h : ∀ h', IsEnum h' (s.heap.objs.size + 1) s.heap.objs.size 0 .none → h'.get? s.heap.objs.size = some o → h'.objs.size = s.heap.objs.size + 2 →
      (∀ b o, s.heap.get? b = some o → h'.get? b = some o) → Q (.ref (s.heap.objs.size + 1)) { s with heap := h' }) :
    wpAny (model prog w) A (call (.type "enumerate") [v]) Q E s := by
  refine callType_new F.called_enumerate (by decide) (F.typeCall_enumerate_1 _) (F.newCall_enumerate_1 _) (fun obj => F.args_object_init_2 obj _) F.entry_enumerate_new (lk_enum_new B) ⟨h1, ?_⟩
  have hz : (s.heap.push o).objs.size = s.heap.objs.size + 1 := Heap.size_push ..
  show _ ∧ _
  rw [hz]
  have he : IsEnum ((s.heap.push o).push { cls := .type "enumerate", data := .fields #[.none, .bool false, .ref s.heap.objs.size, rawInt 0, .none, .none] }) (s.heap.objs.size + 1) s.heap.objs.size 0 .none := by
    have := Heap.get?_push_size (s.heap.push o) (o := { cls := .type "enumerate", data := .fields #[.none, .bool false, .ref s.heap.objs.size, rawInt 0, .none, .none] }) rfl
    rw [hz] at this; exact this
  exact ⟨⟨_, he, rfl⟩, h _ he (Heap.get?_push_of_some _ (Heap.get?_push_size _ B.free)) (by rw [Heap.size_push, hz]) fun b o x => Heap.get?_push_of_some _ (Heap.get?_push_of_some _ x)⟩
end
end PySem
namespace LK
open PySem PySem.Spec PyProof.Rows L2
/-- the tuple at a, each item in a new pair -/
def ItE (K : PySem.W.Frag) (a : Addr) : It :=
  ⟨fun i H => ∃ (xs : List V) (x : V), SqT K H a xs ∧ xs[i]? = some x, fun i H v H' => ∃ T x, v = .ref T ∧ H T = none ∧ H' = upd H T (.tup [.int (i : Nat), x]) ∧ ∀ xs, SqT K H a xs → xs[i]? = some x, fun i H => ∃ xs : List V, SqT K H a xs ∧ xs.length = i⟩
theorem turn_enumT {P : Program} {w : World} {K : PySem.W.Frag} {elts : List Expr} {kk : Nat} {tpos : Pos} (a e it : Addr) (items : Array Value) (hai : a ≠ it) (hae : a ≠ e) :
    Turn P w K (.Tuple elts kk tpos) (ItE K a) [e, it] e (fun i h => (∃ old, IsEnum h e it ((i : Nat) : Int) old) ∧ h.IsTupleIter it a i ∧ e ≠ it) where
  mem := by simp
  obj := fun i h st b hb => by
    obtain ⟨⟨old, he⟩, ⟨o, ho, hc, hd⟩, _⟩ := st
    have e' : b = e ∨ b = it := by simpa using hb
    rcases e' with z | z
    · rw [z]; exact ⟨_, he, fun v q => nomatch q⟩
    · rw [z]; exact ⟨o, ho, fun v q => by rw [hd] at q; cases q⟩
  keep := fun i h h' st k => let ⟨⟨old, he⟩, hi, hne⟩ := st; ⟨⟨old, k e (by simp) _ he⟩, hi.at fun o q => k it (by simp) o q, hne⟩
  item := by
    intro X hP hw hK hc i pins s σ H E I hf st hg
    subst hP hw hK
    obtain ⟨⟨old, he⟩, hit, hne⟩ := st
    obtain ⟨xs, x, hq, hx⟩ := hg
    obtain ⟨its, rv, p, hz⟩ := I.tuple hq
    obtain ⟨u, hu, ru⟩ := rv.get hx
    have hel : e < s.heap.objs.size := Heap.lt_size he
    have hil : it < s.heap.objs.size := by obtain ⟨_, q, _⟩ := hit; exact Heap.lt_size q
    have D := Draws.tuple (prog := X.prog) (w := X.w) (A := X.A.in1) (I.ok.hd hc) it a hai its.toArray
    refine wpAny_pyNext_enum_itemD D he ⟨hit, p⟩ (by rw [List.size_toArray]; exact (List.getElem?_eq_some_iff.mp hu).1) hne (by simp [hne, Ne.symm hae]) fun v h' tk hv ho hit' hT hsz hk => ?_
    have ev : v = u := by
      have q : its[i]? = some v := by simpa using hv
      rw [hu] at q
      cases q
      rfl
    subst ev
    refine ⟨_, rfl, wpAny_letOwnedTupleGo_enum (s := { s with heap := h', toks := tk + 1 }) ho fun h'' he' sb => ?_⟩
    have hT2 : h''.get? s.heap.objs.size = some { cls := .type "tuple", data := .seq #[.int i tk, v] } := (sb.2 _ (Nat.ne_of_gt hel)).trans hT
    have new : ObjOk X.prog X.w (upd H s.heap.objs.size (.tup [.int (i : Nat), x])) h'' s.heap.objs.size (.tup [.int (i : Nat), x]) :=
      ⟨by show 2 ≤ sizeLine; decide, [.int i tk, v], .cons ⟨_, rfl⟩ (.cons ru .nil), ⟨_, hT2, rfl, _, rfl⟩⟩
    have I1 : Inv X pins σ (upd H s.heap.objs.size (.tup [.int (i : Nat), x])) { s with heap := h'', toks := tk + 1 } :=
      I.turnedNew (ch := [e, it]) (fun b ob hb q => (sb.2 b (fun z => hb (by simp [z]))).trans (hk b ob (fun z => hb (by simp [z])) (fun z => hb (by simp [z])) q)) hf (Nat.le_refl _) new
    refine ⟨.ref s.heap.objs.size, _, I1, rfl, ⟨_, x, rfl, I.hok.fresh (Nat.le_refl _), rfl, fun ys hy => by rw [I.tuple_inj hy hq]; exact hx⟩, ⟨⟨v, ?_⟩, hit'.1.at fun o q => (sb.2 it (Ne.symm hne)).trans q, hne⟩, fun b hb => ?_⟩
    · have e1 : ((i + 1 : Nat) : Int) = (i : Int) + 1 := by omega
      rw [e1]; exact he'
    · have hb' : b < s.heap.objs.size := by
        have e' : b = e ∨ b = it := by simpa using hb
        rcases e' with z | z
        · rw [z]; exact hel
        · rw [z]; exact hil
      rw [upd_ne (Nat.ne_of_lt hb')]
      exact (hf b hb).1
  done := by
    intro X hP hw hK hc i pins s σ H E I hf st hg
    subst hP hw hK
    obtain ⟨⟨old, he⟩, hit, hne⟩ := st
    obtain ⟨xs, hq, hx⟩ := hg
    obtain ⟨its, rv, p, hz⟩ := I.tuple hq
    obtain ⟨f0, f1, f2, f3, f4, f5⟩ := hf it (by simp)
    have hl := rv.length
    have D := Draws.tuple (prog := X.prog) (w := X.w) (A := X.A.in1) (I.ok.hd hc) it a hai its.toArray
    have ei : its.toArray.size = i := by rw [List.size_toArray, ← hl]; exact hx
    subst ei
    exact wpAny_pyNext_enum_endD D he ⟨hit, p⟩ fun h' eb => ⟨rfl, I.turned (t' := s.toks) (fun b o hb q => eb b o hb q) f0 f1 f3 f4 f5⟩
  self := fun A i s Q E st h => let ⟨⟨_, he⟩, _⟩ := st; wpAny_pyIter_enum he h

def iEnumA (K : PySem.W.Frag) (ta : TA) : TI := fun σ H R => ta σ H fun vs H1 => ∃ a, vs = [.ref a] ∧ (((∃ xs, SqL K H1 a xs) ∧ R (Ite K a) H1) ∨ ((∃ xs, SqT K H1 a xs) ∧ R (ItE K a) H1))
/-- enumerate(e), e a list or a tuple -/
theorem pi_enumA {X : Cx} {e : Expr} {ta : TA} {p pos tpos : Pos} {elts : List Expr} {kk : Nat} (hg : Gl X "enumerate") (hm : X.mg "enumerate" = none) (ha : PA X [e] ta) (hs : starEach [e] X.env = [(false, eval e X.env)] := by rfl) :
    PI X (.Tuple elts kk tpos) (.Call (.Name "enumerate" p) [e] [] pos) (iEnumA X.K ta) := by
  refine ⟨fun pins s σ H R I h => ?_⟩
  refine Call_ (ld_blt I hg hm boot_enumerate (PyProof.Rows.callWith_type1 (thn (ha.run pos pins s σ H _ I h) fun us s1 ⟨vs, H1, I1, r1, q1⟩ => ?_) hs rfl))
  obtain ⟨a, ex, q⟩ := q1
  subst ex
  cases r1 with
  | cons r rr =>
    cases rr
    cases r
    rcases q with ⟨⟨xs, hq⟩, q⟩ | ⟨⟨xs, hq⟩, q⟩
    · obtain ⟨its, rv, p', hz⟩ := I1.list hq
      refine call_enumerate_list p'.isList fun h' he hit hsz hk => wpAny_pyIter_enum he ?_
      have I2 : Inv X pins σ H1 { s1 with heap := h' } := I1.kept (t' := s1.toks) hk
      refine ⟨s1.heap.objs.size + 1, [s1.heap.objs.size + 1, s1.heap.objs.size], _, _, H1, rfl, I2, turn_enum a (s1.heap.objs.size + 1) s1.heap.objs.size, ⟨⟨.none, he⟩, hit, Nat.succ_ne_self _⟩, fun b hb => ?_, q⟩
      have e' : b = s1.heap.objs.size + 1 ∨ b = s1.heap.objs.size := by simpa using hb
      have hle : s1.heap.objs.size ≤ b := by
        rcases e' with z | z
        · rw [z]; exact Nat.le_add_right _ _
        · rw [z]; exact Nat.le_refl _
      exact I1.fpOk hle (I1.hok.fresh hle)
    · obtain ⟨its, rv, p', hz⟩ := I1.tuple hq
      have hlt : a < s1.heap.objs.size := by obtain ⟨o, ho, _⟩ := p'; exact Heap.lt_size ho
      refine lk_call_enum (begins_tuple a its.toArray) (show s1.heap.IsTuple a its.toArray from p') fun h' he hit hsz hk => wpAny_pyIter_enum he ?_
      have I2 : Inv X pins σ H1 { s1 with heap := h' } := I1.kept (t' := s1.toks) hk
      refine ⟨s1.heap.objs.size + 1, [s1.heap.objs.size + 1, s1.heap.objs.size], _, _, H1, rfl, I2, turn_enumT a (s1.heap.objs.size + 1) s1.heap.objs.size its.toArray (Nat.ne_of_lt hlt) (Nat.ne_of_lt (Nat.lt_succ_of_lt hlt)), ⟨⟨.none, he⟩, ⟨_, hit, rfl, rfl⟩, Nat.succ_ne_self _⟩, fun b hb => ?_, q⟩
      have e' : b = s1.heap.objs.size + 1 ∨ b = s1.heap.objs.size := by simpa using hb
      have hle : s1.heap.objs.size ≤ b := by
        rcases e' with z | z
        · rw [z]; exact Nat.le_add_right _ _
        · rw [z]; exact Nat.le_refl _
      exact I1.fpOk hle (I1.hok.fresh hle)
def iSeqA (K : PySem.W.Frag) (tl : TE) : TI := fun σ H R => tl σ H fun x H1 => ∃ a, x = .ref a ∧ (((∃ xs, SqL K H1 a xs) ∧ R (Itl K a) H1) ∨ ((∃ xs, SqT K H1 a xs) ∧ R (Itt K a) H1))
/-- a list or a tuple walked -/
theorem pi_seq {X : Cx} {tg l : Expr} {tl : TE} (hl : PE X l tl) : PI X tg l (iSeqA X.K tl) := by
  refine ⟨fun pins s σ H R I h => ?_⟩
  refine thn (hl.run pins s σ H _ I h) fun v s1 ⟨x, H1, I1, r1, q1⟩ => ?_
  obtain ⟨a, e, q⟩ := q1
  subst e
  cases r1
  rcases q with ⟨⟨xs, hq⟩, q⟩ | ⟨⟨xs, hq⟩, q⟩
  · obtain ⟨its, rv, p, hz⟩ := I1.list hq
    refine wpAny_pyIter_list p.isList ?_
    refine ⟨s1.heap.objs.size, [s1.heap.objs.size], _, _, H1, rfl, I1.kept (t' := s1.toks) fun b o e => Heap.get?_push_of_some _ e, turn_list a _, ⟨_, Heap.get?_push_size _ rfl, rfl, rfl⟩, fun b hb => ?_, q⟩
    have e : b = s1.heap.objs.size := by simpa using hb
    subst e
    exact I1.fpOk (Nat.le_refl _) (I1.hok.fresh (Nat.le_refl _))
  · obtain ⟨its, rv, p, hz⟩ := I1.tuple hq
    refine wpAny_pyIter_tuple (show s1.heap.IsTuple a its.toArray from p) ?_
    refine ⟨s1.heap.objs.size, [s1.heap.objs.size], _, _, H1, rfl, I1.kept (t' := s1.toks) fun b o e => Heap.get?_push_of_some _ e, turn_tuple a _, ⟨_, Heap.get?_push_size _ rfl, rfl, rfl⟩, fun b hb => ?_, q⟩
    have e : b = s1.heap.objs.size := by simpa using hb
    subst e
    exact I1.fpOk (Nat.le_refl _) (I1.hok.fresh (Nat.le_refl _))
/-! ### their data -/
/-- the data of a list or a tuple -/
def itemsD : PyData → Option (List PyData)
  | .list ds => some ds
  | .tuple ds => some ds
  | _ => none
section
variable {K : PySem.W.Frag} {ρ : Ro} {te : TE} {ta : TA} {d : PyData} {ds : List PyData}
theorem src_enumA (h : EvAD K ta ρ [d]) (hd : itemsD d = some ds) : Src K (iEnumA K ta) ρ (enumD 0 ds) := fun F H σ s sl R q => h F H σ s sl _ fun vs F1 H1 l1 r1 => by
  cases r1 with
  | cons x y =>
    cases y
    cases x with
    | @lst a xs ds' hs ha =>
      cases hd
      refine ⟨a, rfl, .inl ⟨⟨xs, sql_sub l1.s hs⟩, q _ F1 H1 l1 ⟨fun F2 H2 e1 e2 i d hd => ?_, fun F2 H2 e1 e2 i d hd x H' y => ?_, fun F2 H2 e1 e2 => ?_⟩⟩⟩
      · obtain ⟨d', h1, _⟩ := enumD_get hd
        obtain ⟨v, hv, _⟩ := ha.getD h1
        exact ⟨xs, v, sql_sub (e1.trans e2) hs, hv⟩
      · obtain ⟨d', h1, rfl⟩ := enumD_get hd
        obtain ⟨v, hv, dv⟩ := ha.getD h1
        obtain ⟨T, x', rfl, hT, rfl, hx⟩ := y
        have e := hx xs (sql_sub (e1.trans e2) hs)
        rw [hv] at e
        cases e
        refine ⟨_, Le.new e2 hT, .tup (SqT.of upd_same) (.cons ?_ (.cons (dv.mono (e1.trans (Sub.new (e2.none hT)))) .nil))⟩
        rw [Nat.zero_add]
        exact .int _
      · exact ⟨xs, sql_sub (e1.trans e2) hs, by rw [enumD_len, ha.length]; exact Nat.le_refl _⟩
    | @tup a xs ds' hs ha =>
      cases hd
      refine ⟨a, rfl, .inr ⟨⟨xs, sqt_sub l1.s hs⟩, q _ F1 H1 l1 ⟨fun F2 H2 e1 e2 i d hd => ?_, fun F2 H2 e1 e2 i d hd x H' y => ?_, fun F2 H2 e1 e2 => ?_⟩⟩⟩
      · obtain ⟨d', h1, _⟩ := enumD_get hd
        obtain ⟨v, hv, _⟩ := ha.getD h1
        exact ⟨xs, v, sqt_sub (e1.trans e2) hs, hv⟩
      · obtain ⟨d', h1, rfl⟩ := enumD_get hd
        obtain ⟨v, hv, dv⟩ := ha.getD h1
        obtain ⟨T, x', rfl, hT, rfl, hx⟩ := y
        have e := hx xs (sqt_sub (e1.trans e2) hs)
        rw [hv] at e
        cases e
        refine ⟨_, Le.new e2 hT, .tup (SqT.of upd_same) (.cons ?_ (.cons (dv.mono (e1.trans (Sub.new (e2.none hT)))) .nil))⟩
        rw [Nat.zero_add]
        exact .int _
      · exact ⟨xs, sqt_sub (e1.trans e2) hs, by rw [enumD_len, ha.length]⟩
    | _ => cases hd
theorem src_seq (h : Ev K te ρ d) (hd : itemsD d = some ds) : Src K (iSeqA K te) ρ ds := fun F H σ s sl R q => h F H σ s sl _ fun v F1 H1 l1 r1 => by
  cases r1 with
  | @lst a xs ds' hs ha =>
    cases hd
    refine ⟨a, rfl, .inl ⟨⟨xs, sql_sub l1.s hs⟩, q _ F1 H1 l1 ⟨fun F2 H2 e1 e2 i d hd => ?_, fun F2 H2 e1 e2 i d hd x H' y => ?_, fun F2 H2 e1 e2 => ?_⟩⟩⟩
    · obtain ⟨v, hv, _⟩ := ha.getD hd
      exact ⟨xs, v, sql_sub (e1.trans e2) hs, hv⟩
    · obtain ⟨v, hv, dv⟩ := ha.getD hd
      obtain ⟨rfl, hx⟩ := y
      have e := hx xs (sql_sub (e1.trans e2) hs)
      rw [hv] at e
      cases e
      exact ⟨F2, Fr.refl e2, dv.mono e1⟩
    · exact ⟨xs, sql_sub (e1.trans e2) hs, by rw [ha.length]; exact Nat.le_refl _⟩
  | @tup a xs ds' hs ha =>
    cases hd
    refine ⟨a, rfl, .inr ⟨⟨xs, sqt_sub l1.s hs⟩, q _ F1 H1 l1 ⟨fun F2 H2 e1 e2 i d hd => ?_, fun F2 H2 e1 e2 i d hd x H' y => ?_, fun F2 H2 e1 e2 => ?_⟩⟩⟩
    · obtain ⟨v, hv, _⟩ := ha.getD hd
      exact ⟨xs, v, sqt_sub (e1.trans e2) hs, hv⟩
    · obtain ⟨v, hv, dv⟩ := ha.getD hd
      obtain ⟨rfl, hx⟩ := y
      have e := hx xs (sqt_sub (e1.trans e2) hs)
      rw [hv] at e
      cases e
      exact ⟨F2, Fr.refl e2, dv.mono e1⟩
    · exact ⟨xs, sqt_sub (e1.trans e2) hs, by rw [ha.length]; exact Nat.le_refl _⟩
  | _ => cases hd
end
end LK

set_option Elab.async false
set_option linter.all false
set_option maxRecDepth 100000
set_option maxHeartbeats 2000000
/-! LKS: len(set(xs)), xs a list or a tuple of any texts. -/
namespace LK
open PySem PySem.Spec PyProof.Rows
/-- how many of the first i are new when they come -/
def cntS (xs : List Str) : Nat → Nat
  | 0 => 0
  | i + 1 => if (xs.take i).any (· == xs.getD i Str.empty) then cntS xs i else cntS xs i + 1
theorem cntS_le (xs : List Str) : ∀ i, cntS xs i ≤ i
  | 0 => Nat.le_refl _
  | i + 1 => by
    have ih := cntS_le xs i
    unfold cntS
    split <;> omega
theorem cntS_full (xs : List Str) : ∀ i, i ≤ xs.length → (cntS xs i = i ↔ (xs.take i).Nodup)
  | 0, _ => by simp [cntS]
  | i + 1, hi => by
    have ih := cntS_full xs i (by omega)
    have hlt : i < xs.length := hi
    have e : xs.take (i + 1) = xs.take i ++ [xs[i]] := by rw [List.take_add_one, List.getElem?_eq_getElem hlt] <;> rfl
    have eg : xs.getD i Str.empty = xs[i] := by rw [List.getD_eq_getElem?_getD, List.getElem?_eq_getElem hlt] <;> rfl
    have le := cntS_le xs i
    unfold cntS
    rw [e, List.nodup_append, eg]
    by_cases h : (xs.take i).any (· == xs[i]) = true
    · rw [if_pos h]
      obtain ⟨y, hy, ey⟩ := List.any_eq_true.mp h
      have ey2 : y = xs[i] := eq_of_beq ey
      rw [ey2] at hy
      refine ⟨fun q => by omega, fun ⟨_, _, q⟩ => absurd rfl (q _ hy _ (by simp))⟩
    · rw [if_neg h]
      refine ⟨fun q => ⟨ih.mp (by omega), by simp, fun a ha b hb q => ?_⟩, fun ⟨q, _, _⟩ => by rw [ih.mpr q]⟩
      have hb2 : b = xs[i] := by simpa using hb
      rw [q, hb2] at ha
      exact h (List.any_eq_true.mpr ⟨_, ha, beq_self_eq_true _⟩)
section
variable {prog : Program} {w : World} {A : Around} {R : Result → Shared → Prop} {I : Addr} {fp wr : List Addr} {G : Array GenState → Array GenState → Prop} {n : Nat} {P : Nat → Value → Prop} {St : Nat → Shared → Prop}
theorem lk_loopStr (W : WalksS prog w A.in1 I fp wr G n P St) (S : Addr) (hSf : S ∉ fp) (xs : List Str) (hsz : xs.length = n) (hn1 : n + 1 < scanBound)
    (hval : ∀ i v, P i v → ∃ t, v = .str (xs.getD i Str.empty) t) :
    ∀ (k i : Nat) (s : Shared), n - i = k → i ≤ n → St i s →
      s.heap.SetOf (PySem.strKind prog w) S (fun k' => (xs.take i).any (· == k')) (cntS xs i) →
      (∀ s', Moved (S :: wr) G s s' → s'.heap.SetOf (PySem.strKind prog w) S (fun k' => (xs.take n).any (· == k')) (cntS xs n) → R (.ok (.ret .none)) s') →
      codeAny (model prog w) A (.builtin "set.update.loop" ⟨[.ref S, .ref I], []⟩) R s := by
  have hSw : S ∉ wr := fun h => hSf (W.sub _ h)
  have hsub : ∀ b ∈ wr, b ∈ S :: wr := fun b hb => List.mem_cons_of_mem _ hb
  intro k
  induction k with
  | zero =>
    intro i s hk hi hst hS hR
    obtain rfl : i = n := by omega
    refine codeAny_builtin PyProof.Rows.F.entry_set_update_loop ?_
    rw [Around.under_plainId PyProof.Rows.F.plain_set_update_loop _]
    show wpAny _ A.in1 (pyNext (.ref I) >>= _) _ _ s
    refine wpAny_bind (W.done s _ _ hst fun s' hm => ?_)
    show wpAny _ A.in1 (ret Value.none) _ _ s'
    exact wpAny_pure (hR s' (hm.mono hsub) (by
      obtain ⟨o, es, ep, t, ho, rest⟩ := hS
      exact ⟨o, es, ep, t, hm.heap S _ hSw ho, rest⟩))
  | succ k ih =>
    intro i s hk hi hst hS hR
    have hlt : i < n := by omega
    refine codeAny_builtin PyProof.Rows.F.entry_set_update_loop ?_
    rw [Around.under_plainId PyProof.Rows.F.plain_set_update_loop _]
    show wpAny _ A.in1 (pyNext (.ref I) >>= _) _ _ s
    refine wpAny_bind (W.item i s _ _ hlt hst fun v s' hP hst' hm => ?_)
    obtain ⟨t, rfl⟩ := hval i v hP
    have hS' : s'.heap.SetOf (PySem.strKind prog w) S (fun k' => (xs.take i).any (· == k')) (cntS xs i) := by
      obtain ⟨o, es, ep, tb, ho, rest⟩ := hS
      exact ⟨o, es, ep, tb, hm.heap S _ hSw ho, rest⟩
    show wpAny _ A.in1 (holding [Value.str (xs.getD i Str.empty) t] (setAdd S (.str (xs.getD i Str.empty) t)) >>= _) _ _ s'
    refine wpAny_bind (wpAny_holding ?_)
    unfold setAdd
    refine wpAny_holding ?_
    refine wpAny_bind ((PySem.strKind prog w).pyHash (k := xs.getD i Str.empty) (strKind_is _ _ _ _) ?_)
    have hc := cntS_le xs i
    refine wpAny_setAddHashed_of (knd := PySem.strKind prog w) (s := { s' with toks := s'.toks + 1 }) (strKind_is _ _ _ _) rfl hS' (by omega) fun h' hsb hS2 => ?_
    have hSi : h'.SetOf (PySem.strKind prog w) S (fun k' => (xs.take (i + 1)).any (· == k')) (cntS xs (i + 1)) := by
      have hlx : i < xs.length := by omega
      have eg : xs.getD i Str.empty = xs[i] := by rw [List.getD_eq_getElem?_getD, List.getElem?_eq_getElem hlx] <;> rfl
      refine PyProof.Rows.SetOf_congr hS2 (fun k' => ?_) (by show (if (xs.take i).any (· == xs.getD i Str.empty) = true then cntS xs i else cntS xs i + 1) = cntS xs (i + 1); rfl)
      show ((xs.take i).any (· == k') || decide (k' = xs.getD i Str.empty)) = (xs.take (i + 1)).any (· == k')
      rw [List.take_add_one, List.getElem?_eq_getElem hlx, List.any_append, eg]
      by_cases e : k' = xs[i]
      · rw [e]; simp
      · have hb : (xs[i] == k') = false := beq_eq_false_iff_ne.mpr fun h' => e h'.symm
        simp [hb, e]
    refine wpAny_pure ⟨plainId_quiet PyProof.Rows.F.plain_set_update_loop _, ih (i + 1) _ (by omega) hlt (W.frame _ s' _ _ hst' (Nat.le_succ _) fun b hb o e => ?_) hSi fun s'' hm'' hS'' => ?_⟩
    · rw [hsb.2 b (fun h : b = S => hSf (by rw [← h]; exact hb))]; exact e
    · refine hR s'' (Moved.trans W.gtrans ((hm.mono hsub).then_heap (Nat.le_succ _) fun b o hb e => ?_) hm'') hS''
      rw [hsb.2 b (fun h : b = S => hb (by rw [h]; exact List.mem_cons_self))]; exact e
end
section
variable {prog : Program} {w : World} {A : Around} {E : Value → Shared → Prop} {s : Shared}
set_option maxHeartbeats 3200000 in
/-- set(v), v an object of the class T that is walked as St tells -/
theorem lk_set_seq {T : String} {l : Addr} {items : Array Value} {xs : List Str} {od : Option Addr} {nl : Nat} {osl : Array (Option Value)} {oi : Obj} {Hh : Heap → Prop} {St : Addr → Nat → Heap → Prop} {Q : Value → Shared → Prop}
    (hT1 : isSubtype (.type T) (.type "set") = pure false) (hT2 : isSubtype (.type T) (.type "frozenset") = pure false) (hT3 : (Value.type T == Value.type "dict") = false)
    (hl : s.heap.get? l = some { cls := .type T, dict := od, data := .seq items nl, slots := osl }) (B : Begins (.ref l) oi Hh) (h0 : Hh s.heap)
    (W : ∀ (A : Around) (I : Addr), A.handled = none → l ≠ I → Walks prog w A I [I, l] [I] items.size (fun i v => items[i]? = some v) (St I)) (hst : ∀ h : Heap, Hh h → St h.objs.size 0 (h.push oi))
    (hh : A.handled = none) (hi : PyProof.Rows.StrsAre items.toList xs) (hn1 : xs.length + 1 < scanBound)
    (h : ∀ (h' : Heap) (tk : Nat), h'.SetOf (PySem.strKind prog w) s.heap.objs.size (fun k' => (xs.take items.size).any (· == k')) (cntS xs items.size) →
      (∀ b o, b < s.heap.objs.size → s.heap.get? b = some o → h'.get? b = some o) → Q (.ref s.heap.objs.size) { s with heap := h', toks := tk }) :
    wpAny (model prog w) A (call (.type "set") [.ref l]) Q E s := by
  obtain ⟨c, tl, hmro⟩ := PySem.F.called_set.mro
  have f1 := PySem.F.called_set.made
  have f2 := PySem.F.called_set.sub
  have f3 := PySem.F.called_set.notType
  have f4 := PySem.F.called_set.canCreate
  have f5 := PySem.F.typeCall_set_1 (.ref l)
  have hlS : l < s.heap.objs.size := Heap.lt_size hl
  refine wpAny_call (codeAny_of_tree ?_)
  show wpAny _ _ (callAny (.type "set") _) _ _ _
  refine wpAny_pure ⟨Code.quiet_builtin _ (by decide +kernel), codeAny_builtin PySem.F.entry_type_call ?_⟩
  rw [Around.under_plain (weight_type_call_type "set" [.ref l] []) rfl]
  repeat (any_goals (first | assumption | wp_step))
  refine codeAny_mono (code_set_new_1 (.ref l) (E := E) (Q₁ := fun obj s₁ => ∃ led : Bool, obj = .ref s.heap.objs.size ∧ s₁ = { s with heap := s.heap.push { cls := .type "set", dict := none, data := .set #[] 0 (.fresh 0 0 led) } }) fun led => ⟨led, rfl, rfl⟩) fun r s₁ hr => ?_
  cases r with
  | error e => exact hr
  | ok fl =>
    cases fl with
    | ret obj =>
      obtain ⟨led, rfl, rfl⟩ := hr
      generalize hh1 : s.heap.push { cls := .type "set", dict := none, data := .set #[] 0 (.fresh 0 0 led) } = h1
      have z1 : h1.objs.size = s.heap.objs.size + 1 := by rw [← hh1]; exact Heap.size_push ..
      have k1 : ∀ b o, s.heap.get? b = some o → h1.get? b = some o := fun b o e => by rw [← hh1]; exact Heap.get?_push_of_some _ e
      have hS : h1.get? s.heap.objs.size = some { cls := .type "set", dict := none, data := .set #[] 0 (.fresh 0 0 led) } := by rw [← hh1]; exact Heap.get?_push_size _ rfl
      have hT : Shared.TypeIs { s with heap := h1 } (.ref s.heap.objs.size) "set" := ⟨_, hS, rfl⟩
      have hl1 := k1 _ _ hl
      have H1 : Hh h1 := B.keeps _ _ h0 k1
      have g1 := PySem.F.called_set.init.lookup
      have g2 := PySem.F.called_set.init.bind (.ref s.heap.objs.size)
      repeat (any_goals (first | assumption | wp_step))
      refine codeAny_mono (codeAny_call_builtin (R := wants (fun r s₂ => r = .none ∧ ∃ h' tk, s₂ = { s with heap := h', toks := tk } ∧
          h'.SetOf (PySem.strKind prog w) s.heap.objs.size (fun k' => (xs.take items.size).any (· == k')) (cntS xs items.size) ∧
          (∀ b o, b < s.heap.objs.size → s.heap.get? b = some o → h'.get? b = some o)) E) PySem.F.called_set.init.plain PySem.F.entry_set_init (check_set_init_1 hT ?_)) fun r₂ s₂ hr₂ => ?_
      · unfold Builtin.«set.__init__» noKeywords Builtin.Frozenset.updateFrom
        generalize hPI : pyIter = PI
        wp_walk
        subst hPI
        refine B.iter prog w _ _ _ _ H1 (wpAny_bind (wpAny_runValue ?_))
        have hneI : l ≠ h1.objs.size := by rw [z1]; exact Nat.ne_of_lt (Nat.lt_succ_of_lt hlS)
        have hSf : s.heap.objs.size ∉ [h1.objs.size, l] := by
          rw [z1]; simp only [List.mem_cons, List.mem_singleton, List.not_mem_nil, or_false, not_or]
          exact ⟨Nat.ne_of_lt (Nat.lt_succ_self _), Nat.ne_of_gt hlS⟩
        have hsz : xs.length = items.size := by rw [← StrsAre.len_eq hi, Array.length_toList]
        refine lk_loopStr ((W _ _ (by simp [hh]) hneI).toS) s.heap.objs.size hSf xs hsz (by rw [← hsz]; exact hn1) (fun i v hv => SS.strs_at hi i v (by rw [Array.getElem?_toList]; exact hv)) (items.size - 0) 0 _ (by omega) (Nat.zero_le _)
          (hst _ H1) (PyProof.Rows.SetOf_congr ((PyProof.Rows.setObjOf_fresh (knd := PySem.strKind prog w) led).setOf (Heap.get?_push_of_some _ hS) (by unfold scanBound; omega)) (fun _ => rfl) rfl) ?_
        rintro ⟨h', g', d', tk', os'⟩ hm hS'
        obtain rfl : g' = s.gens := hm.gens
        obtain rfl : d' = s.drawn := hm.drawn
        obtain rfl : os' = s.os := hm.os
        show wpAny _ _ _ _ _ _
        refine wpAny_pure ?_
        show wpAny _ _ (ret Value.none) _ _ _
        refine wpAny_pure ⟨rfl, h', tk', rfl, hS', fun b o hb e => hm.heap b o ?_ (Heap.get?_push_of_some _ (k1 b o e))⟩
        rw [z1]
        simp only [List.mem_cons, List.mem_singleton, List.not_mem_nil, or_false, not_or]
        exact ⟨Nat.ne_of_lt hb, Nat.ne_of_lt (Nat.lt_succ_of_lt hb)⟩
      · cases r₂ with
        | error e => exact hr₂
        | ok fl₂ =>
          cases fl₂ with
          | ret r =>
            obtain ⟨rfl, h', tk, rfl, hS', hk'⟩ := hr₂
            repeat (any_goals (first | assumption | wp_step))
            exact h _ _ hS' hk'
          | _ => exact hr₂.elim
    | _ => exact hr.elim
theorem lk_set_list {l : Addr} {items : Array Value} {xs : List Str} {Q : Value → Shared → Prop} (hh : A.handled = none) (hl : s.heap.IsList l items) (hi : PyProof.Rows.StrsAre items.toList xs) (hn1 : xs.length + 1 < scanBound)
    (h : ∀ (h' : Heap) (tk : Nat), h'.SetOf (PySem.strKind prog w) s.heap.objs.size (fun k' => (xs.take items.size).any (· == k')) (cntS xs items.size) →
      (∀ b o, b < s.heap.objs.size → s.heap.get? b = some o → h'.get? b = some o) → Q (.ref s.heap.objs.size) { s with heap := h', toks := tk }) :
    wpAny (model prog w) A (call (.type "set") [.ref l]) Q E s := by
  obtain ⟨⟨c, od, dt, osl⟩, ho, hc, n, hd⟩ := id hl
  simp only at hc hd
  subst hc hd
  exact lk_set_seq PySem.F.sub_list_set PySem.F.sub_list_frozenset (by decide) ho (begins_list l items) hl (fun A I hh hne => Walks.list hh I l hne items) (fun hp hx => ⟨⟨_, Heap.get?_push_size _ rfl, rfl, rfl⟩, hx.push _⟩) hh hi hn1 h
theorem lk_set_tuple {l : Addr} {items : Array Value} {xs : List Str} {Q : Value → Shared → Prop} (hh : A.handled = none) (hl : s.heap.IsTuple l items) (hi : PyProof.Rows.StrsAre items.toList xs) (hn1 : xs.length + 1 < scanBound)
    (h : ∀ (h' : Heap) (tk : Nat), h'.SetOf (PySem.strKind prog w) s.heap.objs.size (fun k' => (xs.take items.size).any (· == k')) (cntS xs items.size) →
      (∀ b o, b < s.heap.objs.size → s.heap.get? b = some o → h'.get? b = some o) → Q (.ref s.heap.objs.size) { s with heap := h', toks := tk }) :
    wpAny (model prog w) A (call (.type "set") [.ref l]) Q E s := by
  obtain ⟨⟨c, od, dt, osl⟩, ho, hc, n, hd⟩ := id hl
  simp only at hc hd
  subst hc hd
  exact lk_set_seq PySem.F.sub_tuple_set PySem.F.sub_tuple_frozenset (by decide) ho (begins_tuple l items) hl (fun A I hh hne => Walks.tuple hh I l hne items) (fun hp hx => ⟨⟨_, Heap.get?_push_size _ rfl, rfl, rfl⟩, hx.push _⟩) hh hi hn1 h
end
end LK
namespace LK
open PySem PySem.Spec PyProof.Rows L2
section
variable {X : Cx}
/-- len(set(xs)) -/
def tLenSetS (K : PySem.W.Frag) (ta : TE) : TE := fun σ H Q => ta σ H fun x H1 => ∃ l, ∃ xs : List Str, x = .ref l ∧ (SqL K H1 l (xs.map V.str) ∨ SqT K H1 l (xs.map V.str)) ∧ xs.length ≤ 4000 ∧ Q (.int (cntS xs xs.length : Nat)) H1
theorem pe_lenSet {a : Expr} {ta : TE} {p p2 q pos : Pos} (hc : X.calm = true) (hg : Gl X "len") (hm : X.mg "len" = none) (hg2 : Gl X "set") (hm2 : X.mg "set" = none) (ha : PE X a ta)
    (na : starEach [a] X.env = (false, eval a X.env) :: starEach [] X.env := by rfl) : PE X (.Call (.Name "len" p) [.Call (.Name "set" p2) [a] [] q] [] pos) (tLenSetS X.K ta) := by
  refine ⟨fun pins s σ H Q I h => ?_⟩
  refine Call_ (ld_blt I hg hm boot_len ?_)
  refine PyProof.Rows.callWith_builtin1 (PyProof.Rows.args_cons ?_ rfl) rfl rfl
  refine Call_ (ld_blt I hg2 hm2 boot_set ?_)
  refine PyProof.Rows.callWith_type1 (PyProof.Rows.args_cons (thn (ha.run pins s σ H _ I h) fun v s1 ⟨x, H1, I1, r1, q1⟩ => PyProof.Rows.args_nil ?_) na) na rfl
  obtain ⟨l, xs, rfl, hq, h1, q1⟩ := q1
  cases r1
  have hcl := cntS_le xs xs.length
  have fin : ∀ (its : List Value), Vals (xs.map V.str) its → ∀ (h' : Heap) (tk : Nat), h'.SetOf (PySem.strKind X.prog X.w) s1.heap.objs.size (fun k' => (xs.take its.toArray.size).any (· == k')) (cntS xs its.toArray.size) →
      (∀ b o, b < s1.heap.objs.size → s1.heap.get? b = some o → h'.get? b = some o) →
      wpAny (model X.prog X.w) X.A (spliced (backTo pos (starEach [] X.env))) (fun vs s₂ => wpAny (model X.prog X.w) X.A (call (.builtin "len") (Value.ref s1.heap.objs.size :: vs)) (EP X pins σ Q) X.xe s₂) X.xe { s1 with heap := h', toks := tk } := fun its r h' tk hS hk => by
    refine PyProof.Rows.args_nil ?_
    have hl : its.toArray.size = xs.length := by rw [List.size_toArray, ← r.length, List.length_map]
    rw [hl] at hS
    obtain ⟨o, es, ep, t, ho, hex, hd, _, _, _, hf, hn⟩ := hS
    have I2 : Inv X pins σ H1 { s1 with heap := h', toks := tk } := I1.kept fun b o e => hk b o (Heap.lt_size e) e
    refine call_len_set ho hex hd hf (by rw [hn] <;> omega) ⟨.int (cntS xs xs.length : Nat), H1, I2.tok _, ⟨_, by rw [hn]⟩, q1⟩
  rcases hq with hq | hq
  · obtain ⟨its, r, pl, hz⟩ := I1.list hq
    exact lk_set_list (I1.ok.hd hc) pl.isList (by simpa using strsAre_of r) (by unfold scanBound; omega) fun h' tk hS hk => fin its r h' tk hS hk
  · obtain ⟨its, r, pl, hz⟩ := I1.tuple hq
    exact lk_set_tuple (I1.ok.hd hc) pl (by simpa using strsAre_of r) (by unfold scanBound; omega) fun h' tk hS hk => fin its r h' tk hS hk
variable {K : PySem.W.Frag} {ρ : Ro} {te : TE}
theorem e_lenSet {xs : List Str} {d : PyData} (h : Ev K te ρ d) (hd : itemsD d = some (xs.map PyData.str)) (hz : xs.length ≤ 4000) : Ev K (tLenSetS K te) ρ (.int (cntS xs xs.length : Nat)) := fun F H σ s sl Q q =>
  h F H σ s sl _ fun v F1 H1 l1 r1 => by
    cases r1 with
    | @lst a vs ds hs ha =>
      cases hd
      have e := ha.strs
      subst e
      exact ⟨a, xs, rfl, .inl (sql_sub l1.s hs), hz, q _ F1 H1 l1 (.int _)⟩
    | @tup a vs ds hs ha =>
      cases hd
      have e := ha.strs
      subst e
      exact ⟨a, xs, rfl, .inr (sqt_sub l1.s hs), hz, q _ F1 H1 l1 (.int _)⟩
    | _ => cases hd
end
end LK

set_option Elab.async false
set_option linter.all false
set_option maxRecDepth 100000
set_option maxHeartbeats 2000000
namespace LK
open PySem PySem.Spec PyProof.Rows L2
/-- a comprehension's node: its clauses, what a turn of the last one does -/
structure Node (e : Expr) (gens : List Comprehension) (emit : Value → Env → Sem Unit) : Prop where
  cl : clausesOf e = gens
  q : ∀ depth it acc env, (Code.compLoop e depth it acc env).quiet = true ∧ (Code.compStart e depth it acc env).quiet = true
  runs : ∀ (prog : Program) (w : World) (A : Around) (depth : Nat) (it acc : Value) (env : Env) (Q : Fin → Shared → Prop) (E : Value → Shared → Prop) (s : Shared),
    wpAny (model prog w) A ((compTurn e depth it acc env).onRaise (fun x => do noteFrame x env; theTreesLotGoes x)) Q E s → wpAny (model prog w) (A.under (.compLoop e depth it acc env)) ((model prog w).den (.compLoop e depth it acc env)) Q E s
  starts : ∀ (prog : Program) (w : World) (A : Around) (depth : Nat) (it acc : Value) (env : Env) (Q : Fin → Shared → Prop) (E : Value → Shared → Prop) (s : Shared),
    wpAny (model prog w) A ((compStart e depth it acc env).onRaise (fun x => do noteFrame x env; standAt theWindowsPlace)) Q E s → wpAny (model prog w) (A.under (.compStart e depth it acc env)) ((model prog w).den (.compStart e depth it acc env)) Q E s
  last : ∀ (tg iter : Expr) (ifs : List Expr) (depth : Nat) (it acc : Value) (env : Env), gens[depth]? = some ⟨tg, iter, ifs, 0⟩ → gens[depth + 1]? = none → compTurn e depth it acc env = (do
      standAt iter.pos
      match ← pyNext it with
      | none => pure (.done .next)
      | some v =>
        letOwnedTupleGo tg it v
        assign tg env v
        let mut ok := true
        for c in ifs do
          if ok then ok ← isTrue c env (eval c env)
        if ok then emit acc env
        again (.compLoop e depth it acc env))
  mid : ∀ (tg iter tg1 iter1 : Expr) (ifs ifs1 : List Expr) (depth : Nat) (it acc : Value) (env : Env), gens[depth]? = some ⟨tg, iter, ifs, 0⟩ → gens[depth + 1]? = some ⟨tg1, iter1, ifs1, 0⟩ → compTurn e depth it acc env = (do
      standAt iter.pos
      match ← pyNext it with
      | none => pure (.done .next)
      | some v =>
        letOwnedTupleGo tg it v
        assign tg env v
        let mut ok := true
        for c in ifs do
          if ok then ok ← isTrue c env (eval c env)
        if ok then
          let x ← eval iter1 env
          standAt iter1.pos
          let x ← foldedSetIterable iter1 env x
          let _ ← runOwn (.compStart e (depth + 1) (← holding [x] (pyIter x)) acc env) env
        again (.compLoop e depth it acc env))
def emitL (elt : Expr) (acc : Value) (env : Env) : Sem Unit := do let _ ← call (.builtin "list.append") [acc, ← eval elt env]
def emitD (kx vx : Expr) (acc : Value) (env : Env) : Sem Unit := do
  let kv ← eval kx env
  let vv ← holding [kv] (eval vx env)
  match acc with
  | .ref d => do
    standAt { kx.pos with endLine := vx.pos.endLine, endCol := vx.pos.endCol }
    holding [kv, vv] (dictSet d kv vv)
  | _ => unsupported "internal:dictcomp"
theorem node_list {elt : Expr} {gens : List Comprehension} {scope : Scope} {pos : Pos} : Node (.ListComp elt gens scope pos) gens (emitL elt) where
  cl := rfl
  q := fun _ _ _ _ => ⟨rfl, rfl⟩
  runs := fun _ _ _ _ _ _ _ _ _ _ h => h
  starts := fun _ _ _ _ _ _ _ _ _ _ h => h
  last := fun tg iter ifs depth it acc env h1 h2 => by
    unfold compTurn
    simp only [h1, h2]
    rfl
  mid := fun tg iter tg1 iter1 ifs ifs1 depth it acc env h1 h2 => by
    unfold compTurn
    simp only [h1, h2]
    rfl
theorem node_dict {kx vx : Expr} {gens : List Comprehension} {scope : Scope} {pos : Pos} : Node (.DictComp kx vx gens scope pos) gens (emitD kx vx) where
  cl := rfl
  q := fun _ _ _ _ => ⟨rfl, rfl⟩
  runs := fun _ _ _ _ _ _ _ _ _ _ h => h
  starts := fun _ _ _ _ _ _ _ _ _ _ h => h
  last := fun tg iter ifs depth it acc env h1 h2 => by
    unfold compTurn
    simp only [h1, h2]
    rfl
  mid := fun tg iter tg1 iter1 ifs ifs1 depth it acc env h1 h2 => by
    unfold compTurn
    simp only [h1, h2]
    rfl

section
variable {prog : Program} {w : World} {A : Around} {R : Result → Shared → Prop} {s : Shared} {e tg iter tg1 iter1 : Expr} {ifs ifs1 : List Expr} {gens : List Comprehension} {emit : Value → Env → Sem Unit} {depth : Nat} {it acc : Value} {env : Env}
/-- the tests of a turn -/
abbrev testsOf (ifs : List Expr) (env : Env) : Sem Bool := forIn ifs true fun c r => if r = true then do let ok ← isTrue c env (eval c env); pure (ForInStep.yield ok) else pure (ForInStep.yield r)
theorem loop_last (N : Node e gens emit) (h1 : gens[depth]? = some ⟨tg, iter, ifs, 0⟩) (h2 : gens[depth + 1]? = none) (I : Nat → Shared → Prop)
    (turn : ∀ n s, I n s → wpAny (model prog w) A (pyNext it) (fun r s₁ => match r with
      | none => R (.ok .next) s₁
      | some v => wpAny (model prog w) A (letOwnedTupleGo tg it v) (fun _ s₁' => wpAny (model prog w) A (assign tg env v) (fun _ s₂ =>
          wpAny (model prog w) A (testsOf ifs env) (fun ok s₃ =>
            if ok = true then wpAny (model prog w) A (emit acc env) (fun _ s₄ => ∃ m, m < n ∧ I m s₄) (fun _ _ => False) s₃
            else ∃ m, m < n ∧ I m s₃) (fun _ _ => False) s₂) (fun _ _ => False) s₁') (fun _ _ => False) s₁) (fun _ _ => False) s)
    (n : Nat) (h : I n s) : codeAny (model prog w) A (.compLoop e depth it acc env) R s := by
  have no : ∀ {α : Type} {t : Sem α} {Q : α → Shared → Prop} {E : Value → Shared → Prop} {s : Shared}, wpAny (model prog w) A t Q (fun _ _ => False) s → wpAny (model prog w) A t Q E s := fun h => wpAny_mono h (fun _ _ q => q) fun _ _ z => z.elim
  refine codeAny_loop (N.q _ _ _ _).1 I (fun n s hI => N.runs _ _ _ _ _ _ _ _ _ _ (wpAny_noted ?_)) n h
  rw [N.last tg iter ifs depth it acc env h1 h2]
  refine wpAny_bind (wpAny_standAt (wpAny_bind (wpAny_mono (turn n s hI) (fun r s₁ h₁ => ?_) fun _ _ z => z.elim)))
  cases r with
  | none => exact wpAny_pure h₁
  | some v =>
    refine wpAny_bind (wpAny_mono h₁ (fun _ s₁' h₁' => ?_) fun _ _ z => z.elim)
    refine wpAny_bind (wpAny_mono h₁' (fun _ s₂ h₂ => wpAny_bind (wpAny_mono h₂ (fun ok s₃ h₃ => ?_) fun _ _ z => z.elim)) fun _ _ z => z.elim)
    cases ok with
    | false => exact wpAny_pure ⟨rfl, h₃⟩
    | true => exact wpAny_bind (wpAny_mono h₃ (fun _ s₄ h₄ => wpAny_pure ⟨rfl, h₄⟩) fun _ _ z => z.elim)
theorem loop_mid (N : Node e gens emit) (h1 : gens[depth]? = some ⟨tg, iter, ifs, 0⟩) (h2 : gens[depth + 1]? = some ⟨tg1, iter1, ifs1, 0⟩) (hs : ∀ x, foldedSetIterable iter1 env x = pure x) (I : Nat → Shared → Prop)
    (turn : ∀ n s, I n s → wpAny (model prog w) A (pyNext it) (fun r s₁ => match r with
      | none => R (.ok .next) s₁
      | some v => wpAny (model prog w) A (letOwnedTupleGo tg it v) (fun _ s₁' => wpAny (model prog w) A (assign tg env v) (fun _ s₂ =>
          wpAny (model prog w) A (testsOf ifs env) (fun ok s₃ =>
            if ok = true then wpAny (model prog w) A (eval iter1 env) (fun x s₄ => wpAny (model prog w) A (pyIter x) (fun it1 s₅ =>
              codeAny (model prog w) A (.compStart e (depth + 1) it1 acc env) (fun r s' => match r with
                | .ok _ => ∃ m, m < n ∧ I m s'
                | .error _ => False) s₅) (fun _ _ => False) s₄) (fun _ _ => False) s₃
            else ∃ m, m < n ∧ I m s₃) (fun _ _ => False) s₂) (fun _ _ => False) s₁') (fun _ _ => False) s₁) (fun _ _ => False) s)
    (n : Nat) (h : I n s) : codeAny (model prog w) A (.compLoop e depth it acc env) R s := by
  refine codeAny_loop (N.q _ _ _ _).1 I (fun n s hI => N.runs _ _ _ _ _ _ _ _ _ _ (wpAny_noted ?_)) n h
  rw [N.mid tg iter tg1 iter1 ifs ifs1 depth it acc env h1 h2]
  refine wpAny_bind (wpAny_standAt (wpAny_bind (wpAny_mono (turn n s hI) (fun r s₁ h₁ => ?_) fun _ _ z => z.elim)))
  cases r with
  | none => exact wpAny_pure h₁
  | some v =>
    refine wpAny_bind (wpAny_mono h₁ (fun _ s₁' h₁' => ?_) fun _ _ z => z.elim)
    refine wpAny_bind (wpAny_mono h₁' (fun _ s₂ h₂ => wpAny_bind (wpAny_mono h₂ (fun ok s₃ h₃ => ?_) fun _ _ z => z.elim)) fun _ _ z => z.elim)
    cases ok with
    | false => exact wpAny_pure ⟨rfl, h₃⟩
    | true =>
      refine wpAny_bind (wpAny_mono h₃ (fun x s₄ h₄ => ?_) fun _ _ z => z.elim)
      refine wpAny_bind (wpAny_standAt (wpAny_bind (wpAny_of_eq (hs x) (wpAny_bind (wpAny_holding (wpAny_mono h₄ (fun it1 s₅ h₅ => ?_) fun _ _ z => z.elim))))))
      refine wpAny_bind (wpAny_runOwn ?_)
      rw [Around.mark_none]
      refine codeAny_mono h₅ fun r s' hr => ?_
      cases r with
      | ok f =>
        first
          | exact wpAny_pure ⟨rfl, hr⟩
          | exact wpAny_bind (wpAny_pure (wpAny_pure ⟨rfl, hr⟩))
      | error e => exact hr.elim
/-- a clause's start -/
theorem node_start (N : Node e gens emit) (h1 : gens[depth]? = some ⟨tg, iter, ifs, 0⟩) (h0 : codeAny (model prog w) A (.compLoop e depth it acc env) R s)
    (h : wpAny (model prog w) A (pyIter it) (fun it' s' => codeAny (model prog w) A (.compLoop e depth it' acc env) R s') (notedBy (model prog w) A env fun x s' => R (.error x) s') s) :
    codeAny (model prog w) A (.compStart e depth it acc env) R s := by
  refine codeAny_of_tree (N.starts _ _ _ _ _ _ _ _ _ _ (wpAny_notedAt ?_))
  unfold compStart
  rw [N.cl, h1]
  show wpAny _ _ (ask >>= _) _ _ s
  refine wpAny_bind (wpAny_askSetting (wpAny_ite ?_))
  have hq := N.q depth
  split
  · first
      | exact wpAny_bind (wpAny_pure (wpAny_pure (And.intro (hq _ _ _).1 h0)))
      | exact wpAny_pure (And.intro (hq _ _ _).1 h0)
  · first
      | exact wpAny_bind (wpAny_rule (wpAny_bind (wpAny_standAt (wpAny_bind (wpAny_mono h (fun it' s' h' => wpAny_pure (And.intro (hq _ _ _).1 h')) fun _ _ x => x)))))
      | (refine wpAny_bind (wpAny_rule ?_); show wpAny _ _ (standAt iter.pos >>= _) _ _ s; exact wpAny_bind (wpAny_standAt (wpAny_bind (wpAny_mono h (fun it' s' h' => wpAny_pure (And.intro (hq _ _ _).1 h')) fun _ _ x => x))))
end

/-! ### readings -/
/-- a clause's reading: what is walked, the target, the tests, the slots that are wiped each turn -/
structure CR where
  wi : TI
  g : TG
  tt : TT
  vs : List Nat
abbrev SH := L2.St → Hp → (Hp → Prop) → Prop
def tLoop (J : It) (r : CR) (inner : SH) : SH := fun σ H Nx0 =>
  ∃ W : Nat → Nat → Hp → Prop, (∃ m, W 0 m H) ∧ ∀ i m H, W i m H → (J.stop i H ∧ Nx0 H) ∨ (J.go i H ∧ ∃ Nx : Hp → Prop, (∀ H', Nx H' → ∃ m', m' < m ∧ W (i + 1) m' H') ∧
    ∀ x H', J.yld i H x H' → r.g x (L2.wipe σ r.vs) H' fun σ2 H2 => L2.wipe σ2 r.vs = L2.wipe σ r.vs ∧ r.tt σ2 H2 fun b H3 => if b = true then inner σ2 H3 Nx else Nx H3)
def tCls : List CR → SH → SH
  | [], leaf => leaf
  | c :: cs, leaf => fun σ H Nx => c.wi σ H fun J H1 => tLoop J c (tCls cs leaf) σ H1 Nx
/-- each later clause wipes no more than the one ahead -/
def nest : CR → List CR → Prop
  | _, [] => True
  | r, r1 :: rs => (∀ i ∈ r1.vs, i ∈ r.vs) ∧ nest r1 rs
structure ClOk (Y : Cx) (c : Comprehension) (r : CR) : Prop where
  as0 : c.is_async = 0
  hg : PG Y c.target r.g
  ht : PTs Y c.ifs r.tt
structure ClIn (Y : Cx) (c : Comprehension) (r : CR) : Prop where
  ok : ClOk Y c r
  hi : PI Y c.target c.iter r.wi
  hs : ∀ x, foldedSetIterable c.iter Y.env x = pure x
theorem compr_eta {c : Comprehension} (h : c.is_async = 0) : c = ⟨c.target, c.iter, c.ifs, 0⟩ := by
  obtain ⟨a, b, d, e⟩ := c
  simp only at h
  subst h
  rfl
theorem loopN {Y : Cx} {e : Expr} {gens : List Comprehension} {emit : Value → Env → Sem Unit} {acc : Value} {leaf : SH} (hc : Y.calm = true) (hx : Y.xe = fun _ _ => False) (N : Node e gens emit)
    (hleaf : ∀ pins s σ H Nx, Inv Y pins σ H s → leaf σ H Nx → wpAny (model Y.prog Y.w) Y.A (emit acc Y.env) (fun _ s' => ∃ H', Inv Y pins σ H' s' ∧ Nx H') (fun _ _ => False) s) :
    ∀ (cs : List (Comprehension × CR)) (c : Comprehension) (r : CR) (depth : Nat), gens.drop depth = c :: cs.map (·.1) → ClOk Y c r → (∀ p ∈ cs, ClIn Y p.1 p.2) → nest r (cs.map (·.2)) →
    ∀ (pins : List (Addr × Obj)) (s : Shared) (σ : L2.St) (H : Hp) (it : Addr) (fp : List Addr) (tn : Nat → Heap → Prop) (J : It) (Nx0 : Hp → Prop), Turn Y.prog Y.w Y.K c.target J fp it tn → Inv Y pins σ H s → tn 0 s.heap → (∀ b ∈ fp, FpOk Y pins H b) →
      tLoop J r (tCls (cs.map (·.2)) leaf) σ H Nx0 →
      codeAny (model Y.prog Y.w) Y.A (.compLoop e depth (.ref it) acc Y.env) (fun res s' => match res with | .ok _ => ∃ H', Inv Y pins (L2.wipe σ r.vs) H' s' ∧ Nx0 H' | .error _ => False) s := by
  intro cs
  induction cs with
  | nil =>
    intro c r depth hd ok _ _ pins s σ H it fp tn J Nx0 T I st f hl
    obtain ⟨W, ⟨m0, w0⟩, turn⟩ := hl
    have h1 : gens[depth]? = some ⟨c.target, c.iter, c.ifs, 0⟩ := by
      have q : (gens.drop depth)[0]? = some c := by rw [hd]; rfl
      rw [List.getElem?_drop, Nat.add_zero] at q
      rw [q, ← compr_eta ok.as0]
    have h2 : gens[depth + 1]? = none := by
      have q : (gens.drop depth)[1]? = none := by rw [hd]; rfl
      rw [List.getElem?_drop] at q
      exact q
    refine loop_last N h1 h2 (fun k s' => ∃ j H', Inv Y pins (L2.wipe σ r.vs) H' s' ∧ tn j s'.heap ∧ (∀ b ∈ fp, H' b = none) ∧ W j k H') ?_ m0 ⟨0, H, I.weak (wipe_length _ _) (fun j v q => (wipe_some q).1), st, fun b hb => (f b hb).1, w0⟩
    rintro k s12 ⟨j, H12, I12, st12, n12, w12⟩
    have stat : ∀ {H' : Hp}, (∀ b ∈ fp, H' b = none) → ∀ b ∈ fp, FpOk Y pins H' b := fun hn b hb => ⟨hn b hb, (f b hb).2⟩
    rcases turn j k H12 w12 with ⟨stop, nx⟩ | ⟨go, Nx, hNx, step⟩
    · refine thnF (T.done Y rfl rfl rfl hc j _ s12 (L2.wipe σ r.vs) H12 (fun _ _ => False) I12 (stat n12) st12 stop) fun q s13 ⟨hr, I13⟩ => ?_
      subst hr
      exact ⟨H12, I13, nx⟩
    · refine thnF (T.item Y rfl rfl rfl hc j _ s12 (L2.wipe σ r.vs) H12 (fun _ _ => False) I12 (stat n12) st12 go) fun q s13 ⟨u1, hr, h13⟩ => ?_
      subst hr
      refine thnF h13 fun _ s14 ⟨x1, H14, I14, r14, y14, st14, n14⟩ => ?_
      have I14' := I14.pinned (stat n14) (T.obj _ _ st14)
      have pg := ok.hg.run _ s14 (L2.wipe σ r.vs) H14 x1 u1 _ I14' r14 (step x1 H14 y14)
      rw [hx] at pg
      refine thnF pg fun _ s15 ⟨σ15, H15, I15, hw15, q15⟩ => ?_
      have pt := ok.ht.run _ s15 σ15 H15 _ I15 q15
      rw [hx] at pt
      refine thnF pt fun b1 s16 ⟨H16, I16, q16⟩ => ?_
      have fin : ∀ {s' : Shared} {H' : Hp}, Inv Y (pins ++ pinsAt fp s14.heap) σ15 H' s' → Nx H' → ∃ m, m < k ∧ ∃ j H', Inv Y pins (L2.wipe σ r.vs) H' s' ∧ tn j s'.heap ∧ (∀ b ∈ fp, H' b = none) ∧ W j m H' := fun {s' H'} I' nx => by
        obtain ⟨m', hm, w'⟩ := hNx H' nx
        have pin' : ∀ b ∈ fp, ∀ o, s14.heap.get? b = some o → s'.heap.get? b = some o ∧ H' b = none := fun b hb o e =>
          let z := I'.pin (b, o) (List.mem_append_right _ (List.mem_append_right _ (mem_pinsAt hb e)))
          ⟨z.1, z.2.1⟩
        refine ⟨m', hm, j + 1, H', I'.unpinned.weak (by rw [← hw15, wipe_length]) (fun j v e => by rw [← hw15] at e; exact (wipe_some e).1), T.keep _ _ _ st14 fun b hb o e => (pin' b hb o e).1, fun b hb => ?_, w'⟩
        obtain ⟨o, e, _⟩ := T.obj _ _ st14 b hb
        exact (pin' b hb o e).2
      cases b1 with
      | false =>
        simp only [Bool.false_eq_true, if_false] at q16 ⊢
        exact fin I16 q16
      | true =>
        simp only [if_true] at q16 ⊢
        exact thnF (hleaf _ s16 σ15 H16 _ I16 q16) fun _ s17 ⟨H17, I17, nx⟩ => fin I17 nx
  | cons p cs ih =>
    intro c r depth hd ok oks hn pins s σ H it fp tn J Nx0 T I st f hl
    obtain ⟨c1, r1⟩ := p
    obtain ⟨hn1, hn2⟩ := hn
    have ok1 : ClIn Y c1 r1 := oks (c1, r1) List.mem_cons_self
    obtain ⟨W, ⟨m0, w0⟩, turn⟩ := hl
    have h1 : gens[depth]? = some ⟨c.target, c.iter, c.ifs, 0⟩ := by
      have q : (gens.drop depth)[0]? = some c := by rw [hd]; rfl
      rw [List.getElem?_drop, Nat.add_zero] at q
      rw [q, ← compr_eta ok.as0]
    have h2 : gens[depth + 1]? = some ⟨c1.target, c1.iter, c1.ifs, 0⟩ := by
      have q : (gens.drop depth)[1]? = some c1 := by rw [hd]; rfl
      rw [List.getElem?_drop] at q
      rw [q, ← compr_eta ok1.ok.as0]
    have hd1 : gens.drop (depth + 1) = c1 :: cs.map (·.1) := by
      have q : (gens.drop depth).drop 1 = c1 :: cs.map (·.1) := by rw [hd]; rfl
      rwa [List.drop_drop] at q
    refine loop_mid N h1 h2 ok1.hs (fun k s' => ∃ j H', Inv Y pins (L2.wipe σ r.vs) H' s' ∧ tn j s'.heap ∧ (∀ b ∈ fp, H' b = none) ∧ W j k H') ?_ m0 ⟨0, H, I.weak (wipe_length _ _) (fun j v q => (wipe_some q).1), st, fun b hb => (f b hb).1, w0⟩
    rintro k s12 ⟨j, H12, I12, st12, n12, w12⟩
    have stat : ∀ {H' : Hp}, (∀ b ∈ fp, H' b = none) → ∀ b ∈ fp, FpOk Y pins H' b := fun hn b hb => ⟨hn b hb, (f b hb).2⟩
    rcases turn j k H12 w12 with ⟨stop, nx⟩ | ⟨go, Nx, hNx, step⟩
    · refine thnF (T.done Y rfl rfl rfl hc j _ s12 (L2.wipe σ r.vs) H12 (fun _ _ => False) I12 (stat n12) st12 stop) fun q s13 ⟨hr, I13⟩ => ?_
      subst hr
      exact ⟨H12, I13, nx⟩
    · refine thnF (T.item Y rfl rfl rfl hc j _ s12 (L2.wipe σ r.vs) H12 (fun _ _ => False) I12 (stat n12) st12 go) fun q s13 ⟨u1, hr, h13⟩ => ?_
      subst hr
      refine thnF h13 fun _ s14 ⟨x1, H14, I14, r14, y14, st14, n14⟩ => ?_
      have I14' := I14.pinned (stat n14) (T.obj _ _ st14)
      have pg := ok.hg.run _ s14 (L2.wipe σ r.vs) H14 x1 u1 _ I14' r14 (step x1 H14 y14)
      rw [hx] at pg
      refine thnF pg fun _ s15 ⟨σ15, H15, I15, hw15, q15⟩ => ?_
      have pt := ok.ht.run _ s15 σ15 H15 _ I15 q15
      rw [hx] at pt
      refine thnF pt fun b1 s16 ⟨H16, I16, q16⟩ => ?_
      have hl15 : (L2.wipe σ r.vs).length = σ15.length := by rw [← hw15, wipe_length]
      have hk15 : ∀ (j : Nat) v, (L2.wipe σ r.vs)[j]? = some (some v) → σ15[j]? = some (some v) := fun j v e => by
        rw [← hw15] at e
        exact (wipe_some e).1
      have hkw : ∀ (j : Nat) v, (L2.wipe σ r.vs)[j]? = some (some v) → (L2.wipe σ15 r1.vs)[j]? = some (some v) := fun j v e => by
        rw [← hw15] at e
        obtain ⟨e1, e2⟩ := wipe_some e
        rw [L2.wipe_out fun z => e2 (hn1 j z)]
        exact e1
      have fin : ∀ {σ9 : L2.St} {s' : Shared} {H' : Hp}, Inv Y (pins ++ pinsAt fp s14.heap) σ9 H' s' → (L2.wipe σ r.vs).length = σ9.length → (∀ (j : Nat) v, (L2.wipe σ r.vs)[j]? = some (some v) → σ9[j]? = some (some v)) → Nx H' →
          ∃ m, m < k ∧ ∃ j H', Inv Y pins (L2.wipe σ r.vs) H' s' ∧ tn j s'.heap ∧ (∀ b ∈ fp, H' b = none) ∧ W j m H' := fun {σ9 s' H'} I' hl hk nx => by
        obtain ⟨m', hm, w'⟩ := hNx H' nx
        have pin' : ∀ b ∈ fp, ∀ o, s14.heap.get? b = some o → s'.heap.get? b = some o ∧ H' b = none := fun b hb o e =>
          let z := I'.pin (b, o) (List.mem_append_right _ (List.mem_append_right _ (mem_pinsAt hb e)))
          ⟨z.1, z.2.1⟩
        refine ⟨m', hm, j + 1, H', I'.unpinned.weak hl hk, T.keep _ _ _ st14 fun b hb o e => (pin' b hb o e).1, fun b hb => ?_, w'⟩
        obtain ⟨o, e, _⟩ := T.obj _ _ st14 b hb
        exact (pin' b hb o e).2
      cases b1 with
      | false =>
        simp only [Bool.false_eq_true, if_false] at q16 ⊢
        exact fin I16 hl15 hk15 q16
      | true =>
        simp only [if_true] at q16 ⊢
        have pi1 := ok1.hi.run _ s16 σ15 H16 _ I16 q16
        rw [hx] at pi1
        refine thnF pi1 fun xv s17 hxv => thnF hxv fun itv s18 h18 => ?_
        obtain ⟨it1, fp1, tn1, J1, H18, e1, I18, T1, st18, f18, l18⟩ := h18
        subst e1
        have loop1 := ih c1 r1 (depth + 1) hd1 ok1.ok (fun p hp => oks p (List.mem_cons_of_mem _ hp)) hn2 _ s18 σ15 H18 it1 fp1 tn1 J1 _ T1 I18 st18 f18 l18
        have loop2 : codeAny (model Y.prog Y.w) Y.A (.compLoop e (depth + 1) (.ref it1) acc Y.env) (fun res s' => match res with
            | .ok _ => ∃ m, m < k ∧ ∃ j H', Inv Y pins (L2.wipe σ r.vs) H' s' ∧ tn j s'.heap ∧ (∀ b ∈ fp, H' b = none) ∧ W j m H'
            | .error _ => False) s18 := codeAny_mono loop1 fun res s' hr => by
          cases res with
          | error e => exact hr.elim
          | ok fl =>
            obtain ⟨H', I', nx⟩ := hr
            exact fin I' (hl15.trans (wipe_length σ15 r1.vs).symm) hkw nx
        exact node_start N h2 loop2 (T1.self Y.A 0 _ _ _ st18 loop2)
end LK

set_option Elab.async false
set_option linter.all false
set_option maxRecDepth 100000
set_option maxHeartbeats 2000000
/-! LKD: comprehensions of any number of clauses: a new list, a new dict (keys: tuples of any depth; None and ints). -/
namespace LK
open PySem PySem.Spec PyProof.Rows L2
abbrev BK (X : Cx) (scope : Scope) (G : Cx → Prop) : Prop := ∀ (s : Shared) (H : Hp) (C : Addr) (cl : List (Str × Addr)) (fp : List Addr), G (X.blk s H scope (compEnvC scope cl C X.env) fp)
/-- the reading: the first clause's source; then the new object o0 D and the loops -/
def tCmp (o0 : Addr → HO) (r0 : CR) (cs : List CR) (leaf : Addr → SH) : TE := fun σ H Q => r0.wi σ H fun J H1 => ∀ D, H1 D = none → tLoop J r0 (tCls cs (leaf D)) σ (upd H1 D (o0 D)) (fun H' => Q (.ref D) H')
section
variable {X : Cx}
theorem cmp_core {pins : List (Addr × Obj)} {s : Shared} {σ : L2.St} {H : Hp} {Q : VK} {e : Expr} {gens : List Comprehension} {emit : Value → Env → Sem Unit} {scope : Scope} {own : List (Str × Nat)} {pos' : Pos} {newAcc : Sem Value} {obj : Obj} {o0 : Addr → HO} {leaf : Addr → SH}
    {c0 : Comprehension} {r0 : CR} {cs : List (Comprehension × CR)} {use : Option (Value → Sem Unit)} {Qf : Value → Shared → Prop}
    (N : Node e gens emit) (hgens : gens = c0 :: cs.map (·.1)) (hc : X.calm = true) (hN : X.N.Nodup) (I : Inv X pins σ H s) (hi : PI X c0.target c0.iter r0.wi) (ok : BlkOk X.N X.env.scope scope own) (hv : r0.vs = own.map (·.2)) (hns : nest r0 (cs.map (·.2)))
    (h0 : BK X scope fun Y => ClOk Y c0 r0) (hs0 : ∀ x, foldedSetIterable c0.iter X.env x = pure x) (hcs : BK X scope fun Y => ∀ p ∈ cs, ClIn Y p.1 p.2)
    (hleaf : BK X scope fun Y => ∀ D pins s σ H Nx, Inv Y pins σ H s → leaf D σ H Nx → wpAny (model Y.prog Y.w) Y.A (emit (.ref D) Y.env) (fun _ s' => ∃ H', Inv Y pins σ H' s' ∧ Nx H') (fun _ _ => False) s)
    (hnew : ∀ (A : Around) (Q : Value → Shared → Prop) (E : Value → Shared → Prop) (s : Shared), Q (.ref s.heap.objs.size) { s with heap := s.heap.push obj } → wpAny (model X.prog X.w) A newAcc Q E s) (hfree : obj.isFreed = false)
    (hobj : ∀ (H : Hp) (h : Heap) (D : Addr), (D == sysModules) = false → h.get? D = some obj → ObjOk X.prog X.w H h D (o0 D))
    (h : tCmp o0 r0 (cs.map (·.2)) leaf σ H Q)
    (hRR : ∀ D C s' m H', Inv X pins σ H' s' → Q (.ref D) H' → s'.heap.Ns C m → FpOk X pins H' C → compPost (model X.prog X.w) X.A X.xe use Qf (.ref D) C (.ok .next) s') :
    wpAny (model X.prog X.w) X.A (comprehension e scope X.env pos' newAcc false (eval c0.iter X.env) use) Qf X.xe s := by
  have hfr : ∀ y ∈ scope.names, y.2 = .free → ∃ c, X.env.cells.lookup y.1 = some c := fun y hy e => by
    rcases ok.free y hy e with k | k
    · exact I.ok.has _ (.inl k)
    · exact I.ok.has _ (.inr k)
  refine wpAny_comprehension_free (use := use) (g := c0) (gs := cs.map (·.1)) (N.cl.trans hgens) hs0 (closure_ok hfr) ok.kind (fun y hy e => by rw [ok.uniq y hy, e])
    (thn (hi.run pins s σ H _ I h) fun xv s1 hx => thn hx fun itv s2 h2 => ?_)
  obtain ⟨it, fp, tn, J, H2, e, I2, T, st2, f2, q⟩ := h2
  subst e
  refine hnew _ _ _ _ (newEnv_comp ?_)
  generalize hD : s2.heap.objs.size = D
  have hDn : H2 D = none := I2.hok.fresh (Nat.le_of_eq hD)
  have hl := q D hDn
  generalize hs3 : ({ s2 with heap := s2.heap.push obj } : Shared) = s3
  have h3 : s3.heap = s2.heap.push obj := by rw [← hs3]
  have hget : s3.heap.get? D = some obj := by rw [h3, ← hD]; exact Heap.get?_push_size _ hfree
  have I3 : Inv X pins σ (upd H2 D (o0 D)) s3 := by
    rw [← hs3]
    exact I2.laid (t' := s2.toks) (fun b o e => Heap.get?_push_of_some _ e) (Nat.le_of_eq hD) (hobj _ _ _ (by rw [← hD]; exact beq_eq_false_iff_ne.mpr (Nat.ne_of_gt I2.big)) (by rw [← hD]; exact Heap.get?_push_size _ hfree))
  have sz : ∀ b ∈ fp, b < s2.heap.objs.size := fun b hb => by
    obtain ⟨o, e, _⟩ := T.obj _ _ st2 b hb
    exact Heap.lt_size e
  have f3 : ∀ b ∈ fp, FpOk X pins (upd H2 D (o0 D)) b ∧ b < s3.heap.objs.size := fun b hb => by
    have hlt := sz b hb
    refine ⟨⟨?_, (f2 b hb).2⟩, by rw [h3, Heap.size_push]; exact Nat.lt_succ_of_lt hlt⟩
    rw [upd_ne (by rw [← hD]; exact Nat.ne_of_lt hlt)]
    exact (f2 b hb).1
  have st3 : tn 0 s3.heap := T.keep _ _ _ st2 fun b _ o e => by rw [h3]; exact Heap.get?_push_of_some _ e
  have I4 := block_start I3 ok hN f3
  have p0 := h0 s3 (upd H2 D (o0 D)) s3.heap.objs.size (cellsFrom (s3.heap.objs.size + 1) scope.names (cloFrom X.env.cells scope.names [])) fp
  have ps := hcs s3 (upd H2 D (o0 D)) s3.heap.objs.size (cellsFrom (s3.heap.objs.size + 1) scope.names (cloFrom X.env.cells scope.names [])) fp
  have pl := hleaf s3 (upd H2 D (o0 D)) s3.heap.objs.size (cellsFrom (s3.heap.objs.size + 1) scope.names (cloFrom X.env.cells scope.names [])) fp D
  show codeAny _ _ (.compStart e 0 (.ref it) (.ref D) (compEnvC scope (cellsFrom (s3.heap.objs.size + 1) scope.names (cloFrom X.env.cells scope.names [])) s3.heap.objs.size X.env)) (compPost (model X.prog X.w) X.A X.xe use Qf (.ref D) s3.heap.objs.size) { s3 with heap := pushCells (s3.heap.push { cls := .type "dict", data := .dict #[] }) scope.names }
  have nfp : ∀ b ∈ fp, (upd H2 D (o0 D)) b = none := fun b hb => (f3 b hb).1.1
  generalize hce : compEnvC scope (cellsFrom (s3.heap.objs.size + 1) scope.names (cloFrom X.env.cells scope.names [])) s3.heap.objs.size X.env = ce at I4 p0 ps pl ⊢
  have cL : ce.locals = s3.heap.objs.size := by subst hce; rfl
  generalize hH3 : upd H2 D (o0 D) = H3 at I3 I4 p0 ps pl hl nfp f3
  generalize hs4 : ({ s3 with heap := pushCells (s3.heap.push { cls := .type "dict", data := .dict #[] }) scope.names } : Shared) = s4 at I4 ⊢
  have st4 : tn 0 s4.heap := T.keep _ _ _ st3 fun b _ o e => by rw [← hs4]; exact pushCells_keeps _ _ _ _ (Heap.get?_push_of_some _ e)
  have stat : ∀ b ∈ fp, FpOk (X.blk s3 H3 scope ce fp) [] H3 b := fun b hb =>
    ⟨nfp b hb, (I4.ok.exf b hb).1, I4.ok.exfs b hb, .inl hb, fun x c e => (I4.ok.exf b hb).2 x c e, fun p hp => absurd (show p ∈ ([] : List (Addr × Obj)) ++ [] from hp) (by simp)⟩
  have hl4 : tLoop J r0 (tCls (cs.map (·.2)) (leaf D)) (L2.wipe σ (own.map (·.2))) H3 (fun H' => Q (.ref D) H') := by
    have ew : L2.wipe (L2.wipe σ (own.map (·.2))) r0.vs = L2.wipe σ r0.vs := by rw [hv]; exact wipe_wipe σ _
    unfold tLoop at hl ⊢
    rw [ew]
    exact hl
  have loop := loopN (Y := X.blk s3 H3 scope ce fp) hc rfl N (fun pins s σ H Nx I h => pl pins s σ H Nx I h) cs c0 r0 0 hgens p0 ps hns [] s4 (L2.wipe σ (own.map (·.2))) H3 it fp tn J _ T I4 st4 stat hl4
  have loop2 : codeAny (model X.prog X.w) X.A (.compLoop e 0 (.ref it) (.ref D) ce) (compPost (model X.prog X.w) X.A X.xe use Qf (.ref D) s3.heap.objs.size) s4 := codeAny_mono loop fun res s6 hr => by
    cases res with
    | error e => exact hr.elim
    | ok fl =>
      obtain ⟨H5, I6, qq⟩ := hr
      have I7 : Inv X pins σ H5 s6 := I3.call' (ch := fp) I6.os I6.base I6.hok I6.bare fun b hb => ⟨(f3 b hb).1.2.2.2.1, (f3 b hb).1.2.1, (f3 b hb).1.2.2.2.2.1, (f3 b hb).1.2.2.2.2.2⟩
      have nC : H5 s3.heap.objs.size = none := by
        have z : H5 ce.locals = none := I6.free
        rw [cL] at z
        exact z
      obtain ⟨m, hn, _⟩ := I6.loc
      have hn : s6.heap.Ns ce.locals m := hn
      rw [cL] at hn
      have z := hRR D s3.heap.objs.size s6 m H5 I7 qq hn (I3.fpOk (Nat.le_refl _) nC)
      cases use <;> exact z
  have hg0 : gens[0]? = some ⟨c0.target, c0.iter, c0.ifs, 0⟩ := by rw [hgens, ← compr_eta p0.as0]; rfl
  exact node_start N hg0 loop2 (T.self X.A 0 _ _ _ st4 loop2)

/-! ### lists -/
def leafL (te : TE) (D : Addr) : SH := fun σ H Nx => te σ H fun y H4 => ∃ acc, H4 D = some (.lst acc) ∧ acc.length < sizeLine ∧ Nx (upd H4 D (.lst (acc ++ [y])))
theorem leafL_ok {Y : Cx} {elt : Expr} {te : TE} (hx : Y.xe = fun _ _ => False) (he : PE Y elt te) (D : Addr) (pins : List (Addr × Obj)) (s : Shared) (σ : L2.St) (H : Hp) (Nx : Hp → Prop) (I : Inv Y pins σ H s) (h : leafL te D σ H Nx) :
    wpAny (model Y.prog Y.w) Y.A (emitL elt (.ref D) Y.env) (fun _ s' => ∃ H', Inv Y pins σ H' s' ∧ Nx H') (fun _ _ => False) s := by
  unfold emitL
  have q := he.run pins s σ H _ I h
  rw [hx] at q
  refine wpAny_bind (thnF q fun z s10 ⟨yv, H10, I10, r10, acc, hD10, hz10, nx⟩ => ?_)
  exact wpAny_bind (app_ok I10 hD10 hz10 r10 fun s11 I11 => wpAny_pure ⟨_, I11, nx⟩)
theorem newList_any {M : Model} {A : Around} {Q : Value → Shared → Prop} {E : Value → Shared → Prop} {s : Shared} (h : Q (.ref s.heap.objs.size) { s with heap := s.heap.push { cls := .type "list", data := .seq ([] : List Value).toArray } }) : wpAny M A (newList []) Q E s :=
  wpAny_newObj_type h (by show 0 ≤ sizeLine; decide)
theorem clIn_nil {Y : Cx} : ∀ p ∈ ([] : List (Comprehension × CR)), ClIn Y p.1 p.2 := fun p hp => by cases hp
theorem clIn_cons {Y : Cx} {c : Comprehension} {r : CR} {cs : List (Comprehension × CR)} (h : ClIn Y c r) (t : ∀ p ∈ cs, ClIn Y p.1 p.2) : ∀ p ∈ (c, r) :: cs, ClIn Y p.1 p.2 := fun p hp => by
  rcases List.mem_cons.mp hp with e | hp
  · rw [e]; exact h
  · exact t p hp
section
variable {elt tg iter : Expr} {ifs : List Expr} {scope : Scope} {own : List (Str × Nat)} {pos spos py : Pos} {wi : TI} {g : TG} {tt : TT} {te : TE} {cs : List (Comprehension × CR)} {gs : List Comprehension}
/-- [elt for .. for ..] -/
theorem pe_lcN (hc : X.calm = true) (hN : X.N.Nodup) (hi : PI X tg iter wi) (ok : BlkOk X.N X.env.scope scope own) (hns : nest ⟨wi, g, tt, own.map (·.2)⟩ (cs.map (·.2)))
    (hg : BK X scope fun Y => PG Y tg g) (ht : BK X scope fun Y => PTs Y ifs tt) (hcs : BK X scope fun Y => ∀ p ∈ cs, ClIn Y p.1 p.2) (he : BK X scope fun Y => PE Y elt te) (hgs : gs = cs.map (·.1)) (hs : ∀ x, foldedSetIterable iter X.env x = pure x := by intro _; rfl) :
    PE X (.ListComp elt (⟨tg, iter, ifs, 0⟩ :: gs) scope pos) (tCmp (fun _ => .lst []) ⟨wi, g, tt, own.map (·.2)⟩ (cs.map (·.2)) (leafL te)) := by
  refine ⟨fun pins s σ H Q I h => ?_⟩
  rw [eval_ListComp]
  refine cmp_core (o0 := fun _ => .lst []) (leaf := leafL te) (c0 := ⟨tg, iter, ifs, 0⟩) (r0 := ⟨wi, g, tt, own.map (·.2)⟩) node_list (by rw [hgs]) hc hN I hi ok rfl hns (fun s H C cl fp => ⟨rfl, hg s H C cl fp, ht s H C cl fp⟩) hs hcs (fun s H C cl fp => leafL_ok rfl (he s H C cl fp))
    (fun A Q E s h => newList_any h) rfl (fun H h D _ e => ⟨Nat.zero_le _, [], 0, .nil, e⟩) h fun D C s' m H' I' q hn f => ⟨m, hn, fun h'' sb => ?_⟩
  obtain ⟨f0, f1, f2, f3, f4, f5⟩ := f
  exact ⟨.ref D, H', I'.turned (t' := s'.toks) (fun b o hb e => (sb.2 b hb).trans e) f0 f1 f3 f4 f5, rfl, q⟩
theorem ps_setLcN {i : Nat} {y : Str} (hc : X.calm = true) (hN : X.N.Nodup) (hy : X.N[i]? = some y) (hyl : X.env.scope.names.lookup y = some .local)
    (hsw : swapsWith (.ListComp elt (⟨tg, iter, ifs, 0⟩ :: gs) scope pos) (some (.Name y py)) spos.line X.env = pure true) (hi : PI X tg iter wi) (ok : BlkOk X.N X.env.scope scope own) (hns : nest ⟨wi, g, tt, own.map (·.2)⟩ (cs.map (·.2)))
    (hg : BK X scope fun Y => PG Y tg g) (ht : BK X scope fun Y => PTs Y ifs tt) (hcs : BK X scope fun Y => ∀ p ∈ cs, ClIn Y p.1 p.2) (he : BK X scope fun Y => PE Y elt te) (hgs : gs = cs.map (·.1)) (hs : ∀ x, foldedSetIterable iter X.env x = pure x := by intro _; rfl) :
    PS X (.Assign [.Name y py] (.ListComp elt (⟨tg, iter, ifs, 0⟩ :: gs) scope pos) spos) (tAsg (tCmp (fun _ => .lst []) ⟨wi, g, tt, own.map (·.2)⟩ (cs.map (·.2)) (leafL te)) (gName i)) := by
  refine ⟨fun pins s σ H D I h => ?_⟩
  rw [exec_Assign_Name_used _ _ _ _ hsw]
  refine wpAny_bind (wpAny_standAt (wpAny_bind ?_))
  have h : tCmp (fun _ => .lst []) ⟨wi, g, tt, own.map (·.2)⟩ (cs.map (·.2)) (leafL te) σ H (fun x H1 => gName i x σ H1 D.nx) := h
  refine wpAny_bind (thn (cmp_core (Qf := fun _ s' => SP X pins D .next s') (use := some (assign (.Name y py) X.env)) (o0 := fun _ => .lst []) (leaf := leafL te) (c0 := ⟨tg, iter, ifs, 0⟩) (r0 := ⟨wi, g, tt, own.map (·.2)⟩) node_list (by rw [hgs]) hc hN I hi ok rfl hns (fun s H C cl fp => ⟨rfl, hg s H C cl fp, ht s H C cl fp⟩) hs hcs (fun s H C cl fp => leafL_ok rfl (he s H C cl fp))
    (fun A Q E s h => newList_any h) rfl (fun H h D _ e => ⟨Nat.zero_le _, [], 0, .nil, e⟩) h fun L C s' m H' I' q hn f => ?_) fun _ s' hq => wpAny_pure (wpAny_pure hq))
  show wpAny _ _ (assign (.Name y py) X.env (.ref L)) _ _ _
  refine wpAny_assign_Name (store_ok2 (v := V.ref L) I' hN hy (.inl hyl) rfl (fun s2 I2 ⟨a, sb, ha⟩ => ?_) (.inr hyl))
  obtain ⟨f0, f1, f2, f3, f4, f5⟩ := f
  have haC : C ≠ a := by
    rcases ha with z | z
    · rw [z]; exact f1
    · exact fun e => f4 y a z e.symm
  refine ⟨m, hn.sameBut sb haC, fun h3 sb3 => ?_⟩
  exact ⟨_, H', I2.turned (t' := s2.toks) (fun b o hb e => (sb3.2 b hb).trans e) f0 f1 f3 f4 f5, q⟩
end
end

/-! ### dicts whose keys are tuples -/
mutual
/-- the value is the key k, read off H -/
inductive NK (K : PySem.W.Frag) (H : Hp) : NestedKey → V → Prop
  | non : NK K H .none .non
  | bl (b : Bool) : NK K H (.num (if b = true then 1 else 0)) (.bl b)
  | int (i : Int) : NK K H (.num i) (.int i)
  | str (x : Str) : NK K H (.text x) (.str x)
  | tup {a : Addr} {xs : List V} {ks : List NestedKey} : SqT K H a xs → NKA K H ks xs → NK K H (.tup ks) (.ref a)
inductive NKA (K : PySem.W.Frag) (H : Hp) : List NestedKey → List V → Prop
  | nil : NKA K H [] []
  | cons {k : NestedKey} {v : V} {ks : List NestedKey} {vs : List V} : NK K H k v → NKA K H ks vs → NKA K H (k :: ks) (v :: vs)
end
section
variable {X : Cx} {pins : List (Addr × Obj)} {σ : L2.St} {H : Hp} {s : Shared}
mutual
theorem nk_is (I : Inv X pins σ H s) : ∀ {k : NestedKey} {v : V} {u : Value}, NK X.K H k v → RelV v u → NestedIs s.heap k u
  | _, _, _, .non, r => by cases r; exact .none
  | _, _, _, .bl b, r => by cases r; exact .bool rfl
  | _, _, _, .int i, r => by obtain ⟨t, rfl⟩ := r; exact .int i t
  | _, _, _, .str x, r => by obtain ⟨t, rfl⟩ := r; exact .text x t
  | _, _, _, .tup h a, r => by
    cases r
    obtain ⟨its, rv, ⟨o, ho, hc, n, hd⟩, _⟩ := I.tuple h
    exact .tup ho hc hd (by simpa using nka_is I a rv)
theorem nka_is (I : Inv X pins σ H s) : ∀ {ks : List NestedKey} {vs : List V} {us : List Value}, NKA X.K H ks vs → Vals vs us → NestedAll s.heap ks us
  | _, _, _, .nil, r => by cases r; exact .nil
  | _, _, _, .cons h t, r => by
    cases r with
    | cons r1 r2 => exact .cons (nk_is I h r1) (nka_is I t r2)
end
mutual
def keyN : PyData → NestedKey
  | .none => .none
  | .bool b => .num (if b = true then 1 else 0)
  | .int i => .num i
  | .str x => .text x
  | .tuple ds => .tup (keyNs ds)
  | _ => .none
def keyNs : List PyData → List NestedKey
  | [] => []
  | d :: ds => keyN d :: keyNs ds
end
mutual
/-- a dict's key may be this -/
def keyOk : PyData → Bool
  | .none | .bool _ | .int _ | .str _ => true
  | .tuple ds => keyOks ds
  | _ => false
def keyOks : List PyData → Bool
  | [] => true
  | d :: ds => keyOk d && keyOks ds
end
mutual
theorem nk_of {K : PySem.W.Frag} {F H : Hp} (s : Sub F H) : ∀ {d : PyData} {v : V}, Dat K F d v → keyOk d = true → NK K H (keyN d) v
  | _, _, .non, _ => .non
  | _, _, .bl b, _ => .bl b
  | _, _, .int i, _ => .int i
  | _, _, .str x, _ => .str x
  | _, _, .tup h a, n => by
    unfold keyN
    exact .tup (sqt_sub s h) (nka_of s a (by simpa [keyOk] using n))
  | _, _, .lst h a, n => by simp [keyOk] at n
  | _, _, .dic h k a, n => by simp [keyOk] at n
theorem nka_of {K : PySem.W.Frag} {F H : Hp} (s : Sub F H) : ∀ {ds : List PyData} {vs : List V}, DatA K F ds vs → keyOks ds = true → NKA K H (keyNs ds) vs
  | _, _, .nil, _ => .nil
  | _, _, .cons h t, n => by
    simp only [keyOks, Bool.and_eq_true] at n
    unfold keyNs
    exact .cons (nk_of s h n.1) (nka_of s t n.2)
end
/-- at a: a dict with these keys (a tuple each) in their order -/
def dctO (P : Program) (w : World) (a : Addr) (ks : List (NestedKey × Addr)) : HO := .ext fun h => ∃ (xs : List (NestedKey × Addr × Value)) (o : Obj) (es : Array DictEntry) (ep : Nat), h.get? a = some o ∧ o.ExactDict ∧ o.data = .dict es ep ∧ es.toList = xs.map (entryOfKey (nestedKind P w)) ∧ (xs.map (·.1)).Nodup ∧
  xs.map (fun x => (x.1, x.2.1)) = ks ∧ (a == sysModules) = false
theorem dctO_ok {P : Program} {w : World} {H : Hp} {h : Heap} {a : Addr} {xs : List (NestedKey × Addr × Value)} (hds : (a == sysModules) = false) (x : h.DictOfH (nestedKind P w) a xs) : ObjOk P w H h a (dctO P w a (xs.map fun x => (x.1, x.2.1))) := by
  obtain ⟨o, es, ep, ho, hc, hd, he, _, hn⟩ := x
  exact ⟨⟨xs, o, es, ep, ho, hc, hd, he, hn, rfl, hds⟩, ⟨o, ho⟩, fun h1 h2 z k => by
    obtain ⟨xs, o, es, ep, ho, r⟩ := z
    exact ⟨xs, o, es, ep, k _ ho, r⟩⟩
theorem dctO_get (I : Inv X pins σ H s) {a : Addr} {ks : List (NestedKey × Addr)} (h : H a = some (dctO X.prog X.w a ks)) (hk : ∀ p ∈ ks, NK X.K H p.1 (.ref p.2) ∧ p.1.depth ≤ 8) : ∃ xs, s.heap.DictOfH (nestedKind X.prog X.w) a xs ∧ xs.map (fun x => (x.1, x.2.1)) = ks ∧ (a == sysModules) = false := by
  obtain ⟨⟨xs, o, es, ep, ho, hc, hd, he, hn, e, hds⟩, _, _⟩ := I.hok a _ h
  refine ⟨xs, ⟨o, es, ep, ho, hc, hd, he, fun x hx => ?_, hn⟩, e, hds⟩
  have hm : (x.1, x.2.1) ∈ ks := by rw [← e]; exact List.mem_map.mpr ⟨x, hx, rfl⟩
  obtain ⟨h1, h2⟩ := hk _ hm
  exact ⟨nk_is I h1 rfl, h2⟩
/-- a key more, if it is new -/
def putN (ks : List (NestedKey × Addr)) (k : NestedKey) (b : Addr) : List (NestedKey × Addr) := if (ks.map (·.1)).contains k then ks else ks ++ [(k, b)]
theorem storedH_keys {xs : List (NestedKey × Addr × Value)} {k : NestedKey} {b : Addr} {v : Value} : (storedH xs k b v).map (fun x => (x.1, x.2.1)) = putN (xs.map fun x => (x.1, x.2.1)) k b := by
  have e1 : (atKey xs k).isSome = ((xs.map fun x => (x.1, x.2.1)).map (·.1)).contains k := by
    rw [← any_pairsH]
    unfold pairsH
    rw [List.any_map, List.map_map, Bool.eq_iff_iff]
    simp only [List.any_eq_true, List.contains_iff_mem, List.mem_map, Function.comp_apply, decide_eq_true_eq]
  unfold storedH putN
  rw [e1]
  by_cases h : ((xs.map fun x => (x.1, x.2.1)).map (·.1)).contains k = true
  · rw [if_pos h, if_pos h, List.map_map]
    refine List.map_congr_left fun x _ => ?_
    by_cases q : x.1 = k <;> simp [putAt, q]
  · rw [if_neg h, if_neg h]
    simp
/-- d[key] = value within a comprehension -/
theorem dct_set {A : Around} {D b : Addr} {ks : List (NestedKey × Addr)} {k : NestedKey} {u r : Value} {Q : Unit → Shared → Prop} {E : Value → Shared → Prop} (hu : A.units + 8 < cLine) (I : Inv X pins σ H s) (hD : H D = some (dctO X.prog X.w D ks))
    (hk : ∀ p ∈ ks, NK X.K H p.1 (.ref p.2) ∧ p.1.depth ≤ 8) (hz : ks.length ≤ 100000) (hb : NK X.K H k (.ref b)) (hb8 : k.depth ≤ 8) (ru : RelV (.ref b) u) (h : ∀ s', Inv X pins σ (upd H D (dctO X.prog X.w D (putN ks k b))) s' → Q () s') :
    wpAny (model X.prog X.w) A (dictSet D u r) Q E s := by
  cases ru
  obtain ⟨xs, hm, e, hds⟩ := dctO_get I hD hk
  have hl : xs.length = ks.length := by rw [← e, List.length_map]
  refine wpAny_dictSet_heap (knd := nestedKind X.prog X.w) (hsz := by rw [hl, sizeLine_eq]; omega) hu ⟨nk_is I hb rfl, hb8⟩ hm fun h' hm' hs => ?_
  have he : ∃ q, h'.get? D = some q := let ⟨q, _, _, hq, _⟩ := hm'; ⟨q, hq⟩
  have new : ∀ H', ObjOk X.prog X.w H' h' D (dctO X.prog X.w D (putN ks k b)) := fun H' => by
    have z := dctO_ok (P := X.prog) (w := X.w) (H := H') hds hm'
    rw [storedH_keys, e] at z
    exact z
  exact h _ (I.write (x := D) (e := D) (by rw [hD]; exact True.intro) (.inl rfl) (fun b u hb q => (hs.2 b hb).trans q) he (new _))
end
def leafT (K : PySem.W.Frag) (P : Program) (w : World) (tk tv : TE) (D : Addr) : SH := fun σ H Nx => tk σ H fun y H4 => tv σ H4 fun _ H5 => ∃ (b : Addr) (k : NestedKey) (ks : List (NestedKey × Addr)), y = .ref b ∧ NK K H5 k (.ref b) ∧ k.depth ≤ 8 ∧ H5 D = some (dctO P w D ks) ∧
  (∀ p ∈ ks, NK K H5 p.1 (.ref p.2) ∧ p.1.depth ≤ 8) ∧ ks.length ≤ 100000 ∧ Nx (upd H5 D (dctO P w D (putN ks k b)))
theorem leafT_ok {Y : Cx} {kx vx : Expr} {tk tv : TE} (hx : Y.xe = fun _ _ => False) (hu : Y.A.units + 8 < cLine) (hk : PE Y kx tk) (hv : PE Y vx tv) (D : Addr) (pins : List (Addr × Obj)) (s : Shared) (σ : L2.St) (H : Hp) (Nx : Hp → Prop) (I : Inv Y pins σ H s) (h : leafT Y.K Y.prog Y.w tk tv D σ H Nx) :
    wpAny (model Y.prog Y.w) Y.A (emitD kx vx (.ref D) Y.env) (fun _ s' => ∃ H', Inv Y pins σ H' s' ∧ Nx H') (fun _ _ => False) s := by
  unfold emitD
  have q := hk.run pins s σ H _ I h
  rw [hx] at q
  refine wpAny_bind (thnF q fun z s10 ⟨yk, H10, I10, r10, q10⟩ => ?_)
  have q2 := hv.run pins s10 σ H10 _ I10 q10
  rw [hx] at q2
  refine wpAny_bind (wpAny_holding (thnF q2 fun z2 s11 ⟨yv, H11, I11, r11, b, k, ks, ey, n1, n2, hD, hks, hz, nx⟩ => ?_))
  subst ey
  exact wpAny_bind (wpAny_standAt (wpAny_holding (dct_set hu I11 hD hks hz n1 n2 r10 fun s12 I12 => ⟨_, I12, nx⟩)))
/-! ### dicts whose keys are None and ints -/
/-- at a: a dict with these keys in their order -/
def dclO (P : Program) (w : World) (a : Addr) (ks : List Leaf) : HO := .ext fun h => ∃ kvs : List (Leaf × Value), h.DictOf (leafKind P w) a kvs ∧ kvs.map (·.1) = ks ∧ (a == sysModules) = false
theorem dclO_ok {P : Program} {w : World} {H : Hp} {h : Heap} {a : Addr} {kvs : List (Leaf × Value)} (hds : (a == sysModules) = false) (x : h.DictOf (leafKind P w) a kvs) : ObjOk P w H h a (dclO P w a (kvs.map (·.1))) := by
  obtain ⟨o, es, ep, ho, r⟩ := x
  exact ⟨⟨kvs, ⟨o, es, ep, ho, r⟩, rfl, hds⟩, ⟨o, ho⟩, fun h1 h2 z k => by
    obtain ⟨kvs, ⟨o, es, ep, ho, r⟩, e⟩ := z
    exact ⟨kvs, ⟨o, es, ep, k _ ho, r⟩, e⟩⟩
/-- a value that is a key of such a dict -/
def leafV : V → Option Leaf
  | .non => some .none
  | .int i => some (.num i)
  | .str x => some (.text x)
  | _ => none
theorem leafV_is {v : V} {k : Leaf} {u : Value} (h : leafV v = some k) (r : RelV v u) : Leaf.isOf k u = true := by
  cases v <;> simp only [leafV, Option.some.injEq, reduceCtorEq] at h
  · subst h; cases r; rfl
  · subst h; obtain ⟨t, rfl⟩ := r; simp [Leaf.isOf]
  · subst h; obtain ⟨t, rfl⟩ := r; simp [Leaf.isOf, Value.isStrOf]
def putL (ks : List Leaf) (k : Leaf) : List Leaf := if ks.contains k then ks else ks ++ [k]
theorem stored_keys {kvs : List (Leaf × Value)} {k : Leaf} {v : Value} : (stored kvs k v).map (·.1) = putL (kvs.map (·.1)) k := by
  have e1 : (kvs.any fun kv => decide (kv.1 = k)) = (kvs.map (·.1)).contains k := by
    rw [Bool.eq_iff_iff]
    simp only [List.any_eq_true, List.contains_iff_mem, List.mem_map, decide_eq_true_eq]
  unfold stored putL
  rw [e1]
  by_cases h : (kvs.map (·.1)).contains k = true
  · rw [if_pos h, if_pos h, List.map_map]
    refine List.map_congr_left fun x _ => ?_
    by_cases q : x.1 = k <;> simp [q]
  · rw [if_neg h, if_neg h]
    simp
theorem dcl_set {X : Cx} {pins : List (Addr × Obj)} {σ : L2.St} {H : Hp} {s : Shared} {A : Around} {D : Addr} {ks : List Leaf} {k : Leaf} {y : V} {u r : Value} {Q : Unit → Shared → Prop} {E : Value → Shared → Prop} (I : Inv X pins σ H s) (hD : H D = some (dclO X.prog X.w D ks)) (hz : ks.length ≤ 100000)
    (hy : leafV y = some k) (ru : RelV y u) (h : ∀ s', Inv X pins σ (upd H D (dclO X.prog X.w D (putL ks k))) s' → Q () s') : wpAny (model X.prog X.w) A (dictSet D u r) Q E s := by
  obtain ⟨⟨kvs, hm, e, hds⟩, _, _⟩ := I.hok D _ hD
  have hl : kvs.length = ks.length := by rw [← e, List.length_map]
  refine wpAny_dictSet_pairs (knd := leafKind X.prog X.w) (hsz := by rw [hl, sizeLine_eq]; omega) (leafV_is hy ru) hm fun h' hm' hs => ?_
  have he : ∃ q, h'.get? D = some q := let ⟨q, _, _, hq, _⟩ := hm'; ⟨q, hq⟩
  have new : ∀ H', ObjOk X.prog X.w H' h' D (dclO X.prog X.w D (putL ks k)) := fun H' => by
    have z := dclO_ok (P := X.prog) (w := X.w) (H := H') hds hm'
    rw [stored_keys, e] at z
    exact z
  exact h _ (I.write (x := D) (e := D) (by rw [hD]; exact True.intro) (.inl rfl) (fun b u hb q => (hs.2 b hb).trans q) he (new _))
def leafK (P : Program) (w : World) (tk tv : TE) (D : Addr) : SH := fun σ H Nx => tk σ H fun y H4 => tv σ H4 fun _ H5 => ∃ (k : Leaf) (ks : List Leaf), leafV y = some k ∧ H5 D = some (dclO P w D ks) ∧ ks.length ≤ 100000 ∧ Nx (upd H5 D (dclO P w D (putL ks k)))
theorem leafK_ok {Y : Cx} {kx vx : Expr} {tk tv : TE} (hx : Y.xe = fun _ _ => False) (hk : PE Y kx tk) (hv : PE Y vx tv) (D : Addr) (pins : List (Addr × Obj)) (s : Shared) (σ : L2.St) (H : Hp) (Nx : Hp → Prop) (I : Inv Y pins σ H s) (h : leafK Y.prog Y.w tk tv D σ H Nx) :
    wpAny (model Y.prog Y.w) Y.A (emitD kx vx (.ref D) Y.env) (fun _ s' => ∃ H', Inv Y pins σ H' s' ∧ Nx H') (fun _ _ => False) s := by
  unfold emitD
  have q := hk.run pins s σ H _ I h
  rw [hx] at q
  refine wpAny_bind (thnF q fun z s10 ⟨yk, H10, I10, r10, q10⟩ => ?_)
  have q2 := hv.run pins s10 σ H10 _ I10 q10
  rw [hx] at q2
  refine wpAny_bind (wpAny_holding (thnF q2 fun z2 s11 ⟨yv, H11, I11, r11, k, ks, ey, hD, hz, nx⟩ => ?_))
  exact wpAny_bind (wpAny_standAt (wpAny_holding (dcl_set I11 hD hz ey r10 fun s12 I12 => ⟨_, I12, nx⟩)))
theorem newDict_any {M : Model} {A : Around} {Q : Value → Shared → Prop} {E : Value → Shared → Prop} {s : Shared} (h : Q (.ref s.heap.objs.size) { s with heap := s.heap.push { cls := .type "dict", data := .dict #[] } }) : wpAny M A newDict Q E s :=
  wpAny_newObj_type h
section
variable {X : Cx} {kx vx tg iter : Expr} {ifs : List Expr} {scope : Scope} {own : List (Str × Nat)} {pos : Pos} {wi : TI} {g : TG} {tt : TT} {tk tv : TE}
/-- {k: v for ..}, k a tuple -/
theorem pe_dcT (hu : X.A.units + 8 < cLine) (hc : X.calm = true) (hN : X.N.Nodup) (hi : PI X tg iter wi) (ok : BlkOk X.N X.env.scope scope own)
    (hg : BK X scope fun Y => PG Y tg g) (ht : BK X scope fun Y => PTs Y ifs tt) (hk : BK X scope fun Y => PE Y kx tk) (hv : BK X scope fun Y => PE Y vx tv) (hs : ∀ x, foldedSetIterable iter X.env x = pure x := by intro _; rfl) :
    PE X (.DictComp kx vx [⟨tg, iter, ifs, 0⟩] scope pos) (tCmp (fun D => dctO X.prog X.w D []) ⟨wi, g, tt, own.map (·.2)⟩ [] (leafT X.K X.prog X.w tk tv)) := by
  refine ⟨fun pins s σ H Q I h => ?_⟩
  rw [arm_eval_DictComp]
  refine cmp_core (o0 := fun D => dctO X.prog X.w D []) (leaf := leafT X.K X.prog X.w tk tv) (c0 := ⟨tg, iter, ifs, 0⟩) (r0 := ⟨wi, g, tt, own.map (·.2)⟩) (cs := []) node_dict rfl hc hN I hi ok rfl trivial (fun s H C cl fp => ⟨rfl, hg s H C cl fp, ht s H C cl fp⟩) hs (fun s H C cl fp => clIn_nil) (fun s H C cl fp => leafT_ok rfl hu (hk s H C cl fp) (hv s H C cl fp))
    (fun A Q E s h => newDict_any h) rfl (fun H h D hds e => ?_) h fun D C s' m H' I' q hn f => ⟨m, hn, fun h'' sb => ?_⟩
  · have hm : h.DictOfH (nestedKind X.prog X.w) D [] := ⟨_, #[], _, e, ⟨rfl, rfl, rfl⟩, rfl, rfl, fun x hx => absurd hx (by simp), List.nodup_nil⟩
    exact dctO_ok hds hm
  · obtain ⟨f0, f1, f2, f3, f4, f5⟩ := f
    exact ⟨.ref D, H', I'.turned (t' := s'.toks) (fun b o hb e => (sb.2 b hb).trans e) f0 f1 f3 f4 f5, rfl, q⟩
/-- {k: v for ..}, k None, an int or a text -/
theorem pe_dcK (hc : X.calm = true) (hN : X.N.Nodup) (hi : PI X tg iter wi) (ok : BlkOk X.N X.env.scope scope own)
    (hg : BK X scope fun Y => PG Y tg g) (ht : BK X scope fun Y => PTs Y ifs tt) (hk : BK X scope fun Y => PE Y kx tk) (hv : BK X scope fun Y => PE Y vx tv) (hs : ∀ x, foldedSetIterable iter X.env x = pure x := by intro _; rfl) :
    PE X (.DictComp kx vx [⟨tg, iter, ifs, 0⟩] scope pos) (tCmp (fun D => dclO X.prog X.w D []) ⟨wi, g, tt, own.map (·.2)⟩ [] (leafK X.prog X.w tk tv)) := by
  refine ⟨fun pins s σ H Q I h => ?_⟩
  rw [arm_eval_DictComp]
  refine cmp_core (o0 := fun D => dclO X.prog X.w D []) (leaf := leafK X.prog X.w tk tv) (c0 := ⟨tg, iter, ifs, 0⟩) (r0 := ⟨wi, g, tt, own.map (·.2)⟩) (cs := []) node_dict rfl hc hN I hi ok rfl trivial (fun s H C cl fp => ⟨rfl, hg s H C cl fp, ht s H C cl fp⟩) hs (fun s H C cl fp => clIn_nil) (fun s H C cl fp => leafK_ok rfl (hk s H C cl fp) (hv s H C cl fp))
    (fun A Q E s h => newDict_any h) rfl (fun H h D hds e => ?_) h fun D C s' m H' I' q hn f => ⟨m, hn, fun h'' sb => ?_⟩
  · have hm : h.DictOf (leafKind X.prog X.w) D [] := ⟨_, #[], _, e, ⟨rfl, rfl, rfl⟩, rfl, fun x hx => absurd hx (by simp), .nil, List.nodup_nil⟩
    exact dclO_ok hds hm
  · obtain ⟨f0, f1, f2, f3, f4, f5⟩ := f
    exact ⟨.ref D, H', I'.turned (t' := s'.toks) (fun b o hb e => (sb.2 b hb).trans e) f0 f1 f3 f4 f5, rfl, q⟩
theorem find_any {α : Type} (p : α → Bool) : ∀ l : List α, (l.find? p).isSome = l.any p
  | [] => rfl
  | a :: l => by
    rw [List.find?_cons, List.any_cons]
    cases p a with
    | true => rfl
    | false => rw [Bool.false_or]; exact find_any p l
/-- k not in d, d such a dict -/
def tNotInK (P : Program) (w : World) (ty td : TE) : TE := fun σ H Q => ty σ H fun y H1 => td σ H1 fun x H2 => ∃ (a : Addr) (k : Leaf) (ks : List Leaf), x = .ref a ∧ leafV y = some k ∧ H2 a = some (dclO P w a ks) ∧ Q (.bl (!ks.contains k)) H2
theorem pc_notinK {i o : Expr} {ty td : TE} (hi : PE X i ty) (ho : PE X o td) : PC X .NotIn i o (tNotInK X.prog X.w ty td) := by
  refine ⟨fun pins s σ H Q I h => ?_⟩
  refine thn (hi.run pins s σ H _ I h) fun iv s1 ⟨y, H1, I1, ry, q1⟩ => thn (ho.run pins s1 σ H1 _ I1 q1) fun u s2 ⟨x, H2, I2, rx, a, k, ks, ex, ey, g, q2⟩ => ?_
  subst ex
  obtain rfl : u = Value.ref a := rx
  obtain ⟨⟨kvs, hm, e, hds⟩, _, _⟩ := I2.hok a _ g
  refine wpAny_notIn_of (knd := leafKind X.prog X.w) (leafV_is ey ry) hds hm.mapOf ⟨.bl (!ks.contains k), H2, I2.tok _, ?_, q2⟩
  have e1 : (valueAt kvs k).isSome = ks.contains k := by
    unfold valueAt
    rw [Option.isSome_map, find_any, Bool.eq_iff_iff, ← e]
    simp only [List.any_eq_true, decide_eq_true_eq, List.contains_iff_mem, List.mem_map]
  show Value.bool _ = Value.bool _
  rw [e1]
end
end LK

set_option Elab.async false
set_option linter.all false
set_option maxRecDepth 100000
set_option maxHeartbeats 4000000
/-! LKX: own exceptions over an own exception class; an error that is kept behind the except suite. -/
namespace PySem.W
open PySem PySem.Spec PySem.Calls PyProof.Rows
theorem lk_ans {x t : Value} {H : Heap → Prop} (ty : ∀ (M : Model) (h : Heap), H h → Looks M h (typeOf x) t) : Answers (fun s => H s.heap) x t true := by
  intro dep tk prog w A R s hs
  obtain ⟨h0, g, d, tt, os⟩ := s
  obtain ⟨p, hq⟩ := hs
  have LT := ty (model prog w) h0 p
  unfold Builtin.«isinstance.nested»
  refine wpAny_bind (LT.at ?_)
  rw [if_pos (beq_self_eq_true t)]
  first
    | ((repeat lk); exact hq tt)
    | exact wpAny_bind (wpAny_rule (hq tt))
    | exact wpAny_bind (wpAny_rule (wpAny_pure (hq tt)))
/-- isinstance(x, the class of x) -/
theorem lk_isi {prog : Program} {w : World} {A : Around} {E : Value → Shared → Prop} {s : Shared} {Q : Value → Shared → Prop} {x t : Value} {H : Heap → Prop} (ty : ∀ (M : Model) (h : Heap), H h → Looks M h (typeOf x) t) (p : H s.heap) (hx : x ≠ .builtin "__main__.__loader__#opaque")
    (h : ∀ tk, Q (.bool true) { s with toks := tk }) : wpAny (model prog w) A (call (.builtin "isinstance") [x, t]) Q E s :=
  call_isinstance (S := fun _ R s => H s.heap ∧ ∀ tk, R (.ok (.ret (.bool true))) { s with toks := tk })
    (fun prog w A R s hs => isinstance_outer (lk_ans ty 0 _ prog w A R s hs) hx) ⟨p, h⟩
end PySem.W
namespace LK
open PySem PySem.Spec PyProof.Rows L2
/-! ### B.__init__(self, ..), B an own exception class without __init__ -/
structure KInit (K : PySem.W.Frag) (C : Addr) : Prop where
  ga : PySem.W.specialIn K (.ref C) "__getattribute__" = some (some (.builtin "type.__getattribute__"))
  rd : PySem.W.readsIn K C (.type "type") = true
  at_ : PySem.W.findCls K (.ref C) (.type "type") "__init__" = some (.val (.builtin "ValueError.__init__"))
def isValB (o : Option PySem.W.CFound) (id : String) : Bool := match o with
  | some (.val (.builtin x)) => decide (x = id)
  | _ => false
theorem isValB_ok {o : Option PySem.W.CFound} {id : String} (h : isValB o id = true) : o = some (.val (.builtin id)) := by
  unfold isValB at h
  split at h
  · rw [of_decide_eq_true h]
  · cases h
def kInitB (K : PySem.W.Frag) (C : Addr) : Bool := decide (PySem.W.specialIn K (.ref C) "__getattribute__" = some (some (.builtin "type.__getattribute__"))) && (PySem.W.readsIn K C (.type "type") && isValB (PySem.W.findCls K (.ref C) (.type "type") "__init__") "ValueError.__init__")
theorem kInitB_ok {K : PySem.W.Frag} {C : Addr} (h : kInitB K C = true) : KInit K C := by
  obtain ⟨h1, h⟩ := Bool.and_eq_true_iff.mp h
  obtain ⟨h2, h3⟩ := Bool.and_eq_true_iff.mp h
  exact ⟨of_decide_eq_true h1, h2, isValB_ok h3⟩
section
variable {X : Cx} {e : Expr} {es : List Expr} {ta : TA} {x : Str} {B : Addr} {p1 p2 pos : Pos}
theorem pe_kinit {pl : Sem Bool} (T : KInit X.K B) (hg : Gl X x) (hm : X.mg x = some (.ref B)) (ha : PA X (e :: es) ta) (hdb : (x == ("__debug__" : Str)) = false := by decide)
    (hc : eval (.Call (.Attribute (.Name x p1) "__init__" p2) (e :: es) [] pos) X.env = (do
      let ov ← eval (.Name x p1) X.env
      standAt p2.atName
      let (f, first) ← holding [ov] (getMethod ov "__init__" pl)
      callWith pos f first (backTo pos (starEach (e :: es) X.env)) (backToKw pos (keywordEach [] X.env))) := by rfl)
    (he : starEach (e :: es) X.env = (false, eval e X.env) :: starEach es X.env := by rfl) (hpl : (backTo pos (starEach es X.env)).any (·.1) = false := by rfl) :
    PE X (.Call (.Attribute (.Name x p1) "__init__" p2) (e :: es) [] pos) (tVeI X.K ta) := by
  refine ⟨fun pins s σ H Q I h => ?_⟩
  refine PySem.W.methodCall_KW (ld_glob I hg hm ?_ hdb) hc
  refine PySem.W.method_cls I.kIn T.ga (PySem.W.cls_value I.kIn T.rd T.at_ (by decide +kernel) ?_)
  show wpAny _ _ (callWith pos (Value.builtin "ValueError.__init__") [] (backTo pos (starEach (e :: es) X.env)) []) _ _ _
  refine PyProof.Rows.callWith_method1 (thn (ha.run pos pins _ σ H _ (I.tok _) h) fun us s1 ⟨vs, H1, I1, r1, a, C, ws, ev, hl, T, ea, q⟩ => ?_) he hpl
  subst ev
  cases r1 with
  | @cons _ u0 _ ur ra rw' =>
    obtain rfl : u0 = Value.ref a := ra
    have hlen : ur.length ≤ sizeLine := by
      rw [← Paired.length rw', sizeLine_eq]
      omega
    exact oinit_ok T I1 ea hlen fun s' J => ⟨.non, H1, J, rfl, q⟩
end
/-! ### an error that is kept -/
/-- at a: an error of the class cls, its own dict d -/
def errO (a : Addr) (cls : Value) (d : Option Addr) : HO := .ext fun h => ∃ (oe : Obj) (vs : Array Value), h.get? a = some oe ∧ oe.cls = cls ∧ oe.dict = d ∧ oe.data = .fields vs
theorem errO_own {a x : Addr} {cls : Value} {d : Option Addr} : errO a cls d ≠ .own x := fun z => by
  have z' : HO.ext _ = HO.own x := z
  cases z'
theorem errO_tup {a : Addr} {cls : Value} {d : Option Addr} {xs : List V} : errO a cls d ≠ .tup xs := fun z => by
  have z' : HO.ext _ = HO.tup xs := z
  cases z'
section
variable {X : Cx} {pins : List (Addr × Obj)} {σ : L2.St} {H : Hp} {s : Shared} {a : Addr} {oe : Obj} {cls : Value} {d : Option Addr}
theorem adopt (I : Inv X ((a, oe) :: pins) σ H s) (hz : Zc cls d oe) (hf : ∃ vs, oe.data = .fields vs) (h0 : X.s_0.heap.get? a = none) (hp : ∀ p ∈ X.pn ++ pins, p.1 ≠ a) : Inv X pins σ (upd H a (errO a cls d)) s := by
  obtain ⟨ha, hn, hL, hF, hC⟩ := I.pin (a, oe) (List.mem_append_right _ List.mem_cons_self)
  have sub : ∀ b o, H b = some o → upd H a (errO a cls d) b = some o := fun b o e => by rw [upd_ne (ne_of_none e hn)]; exact e
  have n0 : ∀ {b : Addr} {o : Obj}, X.s_0.heap.get? b = some o → b ≠ a := fun {b o} e z => by rw [z, h0] at e; cases e
  refine ⟨I.ok, I.os, I.bare, ⟨I.base.keep, I.base.slot, fun b o e n hx => ?_, I.base.there, fun b xs e => sub _ _ (I.base.tups b xs e), fun b o u e => sub _ _ (I.base.frzs b o u e), fun b ps e => ?_⟩, I.loc, I.cell, ?_, fun x c e => ?_, fun p hp' => ?_, fun b o e => ?_, I.len⟩
  · rw [upd_ne (n0 e)]
    exact I.base.free b o e n hx
  · obtain ⟨more, q⟩ := I.base.tbls b ps e
    exact ⟨more, sub _ _ q⟩
  · rw [upd_ne (Ne.symm hL)]
    exact I.free
  · have hca : c ≠ a := fun z => by
      obtain ⟨v, o, ho, hd⟩ := I.cell x c e
      rw [z] at ho
      rw [ha] at ho
      cases ho
      exact hC _ hd
    rw [upd_ne hca]
    exact I.freeC x c e
  · have hpp : p ∈ X.pn ++ ((a, oe) :: pins) := by
      rcases List.mem_append.mp hp' with h | h
      · exact List.mem_append_left _ h
      · exact List.mem_append_right _ (List.mem_cons_of_mem _ h)
    obtain ⟨q1, q2, q3, q4, q5⟩ := I.pin p hpp
    exact ⟨q1, by rw [upd_ne (hp p hp')]; exact q2, q3, q4, q5⟩
  · by_cases hb : b = a
    · subst hb
      rw [upd_same] at e
      cases e
      obtain ⟨vs, hv⟩ := hf
      exact ⟨⟨oe, vs, ha, hz.1, hz.2, hv⟩, ⟨_, ha⟩, fun h1 h2 z k => by
        obtain ⟨o, vs, q, r⟩ := z
        exact ⟨o, vs, k _ q, r⟩⟩
    · rw [upd_ne hb] at e
      exact (I.hok b o e).stay (fun _ _ _ z => z) (fun c hc => sub _ _ hc) (fun c xs hc => sub _ _ hc)
theorem errO_at (I : Inv X pins σ H s) (e : H a = some (errO a cls d)) : ∃ (oe : Obj) (vs : Array Value), s.heap.get? a = some oe ∧ oe.cls = cls ∧ oe.dict = d ∧ oe.data = .fields vs := by
  have x : ObjOk X.prog X.w H s.heap a (.ext fun h => ∃ (oe : Obj) (vs : Array Value), h.get? a = some oe ∧ oe.cls = cls ∧ oe.dict = d ∧ oe.data = .fields vs) := I.hok a _ e
  exact x.1
end
/-- isinstance(e, C), e an error of the class C itself -/
def rIsErr : List V → Hp → VK → Prop := fun xs H Q => ∃ (a C : Addr) (d : Option Addr), xs = [.ref a, .ref C] ∧ H a = some (errO a (.ref C) d) ∧ Q (.bl true) H
theorem call_isErr {X : Cx} : CallR X (.builtin "isinstance") rIsErr := by
  intro pins s σ H xs us Q I r h
  obtain ⟨a, C, d, rfl, e, q⟩ := h
  obtain ⟨u1, u2, rfl, r1, r2⟩ := vals2 r
  cases (show u1 = Value.ref a from r1)
  cases (show u2 = Value.ref C from r2)
  refine PySem.W.lk_isi (H := fun h => ∃ oe, h.get? a = some oe ∧ oe.cls = .ref C) (fun M h ⟨oe, ho, hc⟩ => fun A Q E s k q => wpAny_typeOf_ref (k _ _ ho) (by rw [hc]; exact q)) ?_ (fun z => nomatch z) fun tk => ⟨.bl true, H, I.tok tk, rfl, q⟩
  obtain ⟨oe, vs, h1, h2, _⟩ := errO_at I e
  exact ⟨oe, h1, h2⟩
/-- e.f, e an error of the class C -/
def tErrF (C : Addr) (f : Str) (te : TE) : TE := fun σ H Q => te σ H fun x H1 => ∃ (a dd : Addr) (fs : List (Str × V)) (v : V), x = .ref a ∧ H1 a = some (errO a (.ref C) (some dd)) ∧ H1 dd = some (.xd fs) ∧ fs.lookup f = some v ∧ Q v H1
theorem pe_errF {X : Cx} {C : Addr} {e : Expr} {te : TE} {pos : Pos} {n : Str} (T : XfC X.K C) (hno : PySem.W.findIn X.K (.ref C) n = some none) (he : PE X e te) (hb : attributeBase e n X.env (eval e X.env) = eval e X.env := by rfl) :
    PE X (.Attribute e n pos) (tErrF C n te) := by
  refine ⟨fun pins s σ H Q I h => ?_⟩
  refine attr_of hb (thn (he.run pins s σ H _ I h) fun u s1 hh => ?_)
  obtain ⟨x, H1, I1, rx, a, dd, fs, v, ex, ee, ea, l, q⟩ := hh
  subst ex
  obtain rfl : u = Value.ref a := rx
  obtain ⟨oe, vs, ha, hc, hdc, hd⟩ := errO_at I1 ee
  have hx : ObjOk X.prog X.w H1 s1.heap dd (.xd fs) := I1.hok dd _ ea
  obtain ⟨mA, hns, hr⟩ := hx
  obtain ⟨od, ho, hl⟩ := lookIn_ns hns
  obtain ⟨u, hu, ru⟩ := RelO.some_of (v := v) (o := mA n) (by rw [← l]; exact hr n)
  have J : PySem.W.InstAt s1.heap a oe C (some od) := ⟨ha, hc, by unfold PySem.W.notCls; rw [hd] <;> rfl, by rw [hdc]; exact ho⟩
  exact HandSPX.exc_get I1.kIn J T.ga T.gg T.exC (PySem.W.findObj_own T.hdC hno rfl (by rw [hl, hu])) (handed_of ru) ⟨v, H1, I1.tok _, ru, q⟩
end LK

set_option Elab.async false
set_option linter.all false
set_option maxRecDepth 100000
set_option maxHeartbeats 4000000
/-! LKY: try .. except X as n, the error kept behind the suite (ps_try_keep: turned from the library's rule, which forgets it). -/
namespace LK
open PySem PySem.Spec PyProof.Rows L2
/-- what the clause wishes of an exception: behind the suite the error stands as errO -/
def wKeep (K : PySem.W.Frag) (c : Value) (i : Nat) (ts : Addr → Value → Option Addr → TS) (Wout : WX) (D : Ends) : WX := fun cls d σ H =>
  ∃ b, PySem.W.exmOne K cls c = some b ∧ (b = true → ∀ a, H a = none → ts a cls d (Ends.mk (fun σ' H' => D.nx (List.set σ' i none) (upd H' a (errO a cls d))) (fun v H' => D.rt v (upd H' a (errO a cls d))) (fun σ' H' => D.bk (List.set σ' i none) (upd H' a (errO a cls d)))
    (fun σ' H' => D.ct (List.set σ' i none) (upd H' a (errO a cls d)))) (List.set σ i (some (.ref a))) H) ∧ (b = false → Wout cls d σ H)
section
variable {X : Cx} {x n : Str} {c : Value} {i : Nat} {body suite : List Stmt} {b₀ : Stmt} {np pos pos' : Pos} {tb : WX → TS} {ts : Addr → Value → Option Addr → TS} {Wout : WX}
theorem ps_try_keep (hex : X.ex = []) (hs : X.stack = X.env :: X.outer) (hf : X.env.frame = some X.env.locals) (hN : X.N.Nodup) (hi : X.N[i]? = some n) (hln : X.env.kindOf n = some .local) (hc : Names X x c) (tk : Takes X Wout)
    (hb : ∀ (W : WX) (pn : List (Addr × Obj)) (xe : Value → Shared → Prop), Takes (X.tr pn xe) W → PassesOwn (model X.prog X.w) X.A X.env xe → PSs (X.tr pn xe) body (tb W))
    (hsu : ∀ (a : Addr) (oe : Obj) (cls : Value) (d : Option Addr) (pn : List (Addr × Obj)), Zc cls d oe → (∃ vs, oe.data = .fields vs) → PSs (X.suite a ((a, oe) :: pn)) (b₀ :: suite) (ts a cls d)) :
    PS X (.Try body [.ExceptHandler (some (.Name x np)) (some n) (b₀ :: suite) pos'] [] [] pos) (fun D σ H => tb (wKeep X.K c i ts Wout D) D σ H) := by
  refine ⟨fun pins s σ H D I h => ?_⟩
  have ok := I.ok
  have hfr : X.A.frames = some (X.env :: X.outer) := by rw [ok.frames, hs]
  have hloc : Loc X.env.scope n := .inl hln
  refine wpAny_Try_except ?_
  refine wpAny_mono ((hb (wKeep X.K c i ts Wout D) (X.pn ++ pins) (fun e s₁ => wpAny (model X.prog X.w) X.A (noteFrame e X.env) (fun _ s₂ => wpAny (model X.prog X.w) X.A (setFlight e none) (fun _ s₃ =>
    wpAny (model X.prog X.w) X.A (handleBy e X.env [.ExceptHandler (some (.Name x np)) (some n) (b₀ :: suite) pos']) (SP X pins D) X.xe s₃) X.xe s₂) X.xe s₁) (fun u s' xx => ?_) PassesOwn.looking).run [] s σ H D (I.toTry _) h) (fun f s1 hsp => ?_) (fun e s1 he => he)
  · -- the catch
    obtain ⟨a, B, sI, pins', σ', H', cls, d, rfl, J', nb, up, sky, na, os, ag, b, hb1, hyes, hno⟩ := xx
    have J : Inv X pins σ' H' sI := J'.ofTry ok
    have sky' : Sky B (X.env :: X.outer) a (Zc cls d) X.env.locals s'.heap := by rw [← hs]; exact sky
    show wpAny (model X.prog X.w) X.A (noteFrame (.ref a) X.env) _ _ _
    refine Sky.land Zc.steady hfr hf sky' fun h3 fl3 up3 => ?_
    have J3 : Inv X pins σ' H' { s' with heap := h3 } := J.landed nb fl3.1 (up.trans up3) os ag
    obtain ⟨oe3, vs3, he3, hz3, hd3⟩ := fl3.there
    have notFr : ∀ {h : Heap} {o : Obj} {vs : Array Value}, h.FunFrames B (X.env :: X.outer) → h.get? a = some o → o.data = .fields vs → a ∉ frs (X.env :: X.outer) := fun {h o vs} ff e dd hm => by
      obtain ⟨_, o', e', hnf⟩ := ff.mem hm
      rw [e] at e'; cases e'
      exact hnf _ dd
    have nfr := notFr fl3.2.2.1 he3 hd3
    have nL : a ≠ X.env.locals := fun z => nfr (List.mem_filterMap.mpr ⟨X.env, List.mem_cons_self, by rw [hf, z]⟩)
    have nF : a ∉ X.fs := fun hm => by
      obtain ⟨e, he, q⟩ := List.mem_filterMap.mp hm
      exact nfr (List.mem_filterMap.mpr ⟨e, List.mem_cons_of_mem _ he, q⟩)
    have S3 := J3.suite he3 hd3 na nL nF
    refine wpAny_handleBy_cons (codeAny_handlers_test ?_) (by intro q; cases q)
    have LT : PySem.W.Looks (model X.prog X.w) h3 (typeOf (.ref a)) cls := fun A Q E s k q => wpAny_typeOf_ref (k _ _ he3) (by rw [hz3.1]; exact q)
    have LM := PySem.W.exm_one (M := model X.prog X.w) (J3.kIn) LT hb1
    have test : ∀ {Q : Value → Shared → Prop} {E : Value → Shared → Prop}, Q c { s' with heap := h3 } → wpAny (model X.prog X.w) (X.A.mark (some (.ref a))) (eval (.Name x np) X.env) Q E { s' with heap := h3 } := fun {Q E} q => by
      obtain ⟨hg, hdbg, hm | ⟨hm, hv, hnn⟩⟩ := hc
      · exact ld_glob (X := X.suite a ((a, oe3) :: (X.pn ++ pins))) S3 hg hm q hdbg
      · exact ld_blt (X := X.suite a ((a, oe3) :: (X.pn ++ pins))) S3 hg hm hv q hnn hdbg
    refine test (LM.here ?_)
    cases b with
    | true =>
      refine codeAny_handlers_suite_as ?_
      refine HandSPX.lands_againZ fl3 fun h4 fl4 up4 => ?_
      have J4 : Inv X pins σ' H' { s' with heap := h4 } := J.landed nb fl4.1 ((up.trans up3).trans up4) os ag
      obtain ⟨oe4, vs4, he4, hz4, hd4⟩ := fl4.there
      have S4 := J4.suite he4 hd4 na nL nF
      refine store_ok (X := X.suite a ((a, oe4) :: (X.pn ++ pins))) (v := .ref a) S4 hN hi hloc rfl (fun s5 S5 => ?_) (.inr hln)
      refine wpAny_mono ((hsu a oe4 cls d (X.pn ++ pins) hz4 ⟨_, hd4⟩).run [] s5 _ H' _ S5 (hyes rfl a na)) (fun f s6 hsp => ?_) (fun _ _ z => False.elim z)
      obtain ⟨_, gB, _⟩ := id fl3
      have naS : sI.heap.get? a = none := by
        cases q : sI.heap.get? a with
        | none => rfl
        | some o =>
          have z := nb a o q (by rw [hs]; exact nfr)
          rw [gB] at z
          cases z
      have n0 : X.s_0.heap.get? a = none := by
        cases q : X.s_0.heap.get? a with
        | none => rfl
        | some o =>
          obtain ⟨o', z⟩ := J.base.there a o q (by rw [hex]; simp)
          rw [naS] at z
          cases z
      have np : ∀ p ∈ X.pn ++ pins, p.1 ≠ a := fun p hp z => by
        have q := (J.pin p hp).1
        rw [z, naS] at q
        cases q
      have unp : ∀ {σ6 : L2.St} {H6 : Hp} {s : Shared}, Inv (X.suite a ((a, oe4) :: (X.pn ++ pins))) [] σ6 H6 s → Inv X ((a, oe4) :: pins) σ6 H6 s := fun {σ6 H6 s} I => ⟨ok, I.os, I.bare, I.base, I.loc, I.cell, I.free, I.freeC, fun p hp => I.pin p (List.mem_append_left _ (by
        rcases List.mem_append.mp hp with z | z
        · exact List.mem_cons_of_mem _ (List.mem_append_left _ z)
        · rcases List.mem_cons.mp z with z | z
          · rw [z]; exact List.mem_cons_self
          · exact List.mem_cons_of_mem _ (List.mem_append_right _ z))), I.hok, I.len⟩
      have end_ : ∀ {σ6 : L2.St} {H6 : Hp} {Q : Shared → Prop}, Inv (X.suite a ((a, oe4) :: (X.pn ++ pins))) [] σ6 H6 s6 → (∀ s7, Inv X pins (σ6.set i none) (upd H6 a (errO a cls d)) s7 → Q s7) →
          wpAny (model X.prog X.w) X.A (do bindName X.env n .none; unbindBehindTheSuite X.env n pos') (fun _ s7 => Q s7) X.xe s6 := fun {σ6 H6 Q} S6 hq => gone_ok (unp S6) hN hi hln fun s7 J7 => hq s7 (adopt J7 hz4 ⟨_, hd4⟩ n0 np)
      cases f with
      | next =>
        obtain ⟨σ6, H6, S6, q6⟩ := hsp
        exact end_ S6 fun s7 J7 => ⟨_, _, J7, q6⟩
      | brk =>
        obtain ⟨σ6, H6, S6, q6⟩ := hsp
        exact end_ S6 fun s7 J7 => ⟨_, _, J7, q6⟩
      | cont =>
        obtain ⟨σ6, H6, S6, q6⟩ := hsp
        exact end_ S6 fun s7 J7 => ⟨_, _, J7, q6⟩
      | ret u =>
        obtain ⟨v6, σ6, H6, S6, r6, q6⟩ := hsp
        exact end_ S6 fun s7 J7 => ⟨_, _, _, J7, r6, q6⟩
    | false =>
      show wpAny _ X.A (handleBy (.ref a) X.env []) _ _ _
      refine wpAny_handleBy_nil ?_
      obtain ⟨k1, k2, k3, oe, vs, T, oT, ts', he, hz, hd, h1, hr⟩ := id fl3
      unfold PySem.passOn
      refine wpAny_bind (wpAny_field he hd h1 ?_)
      rw [if_neg (show ¬ ((Value.ref T == Value.none) = true) from by simp)]
      have fin : wpAny (model X.prog X.w) X.A (setFlight (.ref a) X.env.frame) (fun _ s4 => wpAny (model X.prog X.w) X.A (throw (.ref a) : Sem Flow) (SP X pins D) X.xe s4) X.xe { s' with heap := h3 } := by
        rw [hf]
        refine HandSPX.setFlight_upZ fl3 fun h4 hh4 up4 => wpAny_throw (tk _ _ ?_)
        exact ⟨a, B, sI, pins, σ', H', cls, d, rfl, J, nb, (up.trans up3).trans up4, .inr (.inr (by rw [hs]; exact hh4)), na, os, ag, hno rfl⟩
      first
        | exact wpAny_bind (wpAny_pure (wpAny_bind fin))
        | exact wpAny_bind fin
  · cases f with
    | next =>
      obtain ⟨σ', H', J', q⟩ := hsp
      exact wpAny_execs_nil ⟨σ', H', J'.ofTry ok, q⟩
    | brk =>
      obtain ⟨σ', H', J', q⟩ := hsp
      exact ⟨σ', H', J'.ofTry ok, q⟩
    | cont =>
      obtain ⟨σ', H', J', q⟩ := hsp
      exact ⟨σ', H', J'.ofTry ok, q⟩
    | ret u =>
      obtain ⟨v, σ', H', J', r, q⟩ := hsp
      exact ⟨v, σ', H', J'.ofTry ok, r, q⟩
end
end LK

set_option Elab.async false
set_option linter.all false
set_option maxRecDepth 100000
set_option maxHeartbeats 2000000
/-! LKR: repr of data. -/
namespace LK
open PySem PySem.Spec PyProof.Rows L2
/-- the object at sysModules is written, a dict -/
def ModK (K : PySem.W.Frag) : Prop := ∃ o, K.lookup sysModules = some o ∧ o.cls = .type "dict"
def modKB (K : PySem.W.Frag) : Bool := match K.lookup sysModules with
  | some o => decide (o.cls = .type "dict")
  | none => false
theorem modKB_ok {K : PySem.W.Frag} (h : modKB K = true) : ModK K := by
  unfold modKB at h
  cases e : K.lookup sysModules with
  | none => rw [e] at h; cases h
  | some o => rw [e] at h; exact ⟨o, e, of_decide_eq_true h⟩
section
variable {X : Cx} {pins : List (Addr × Obj)} {σ : L2.St} {H : Hp} {s : Shared}
theorem key_reads {h : Heap} {prog : Program} {w : World} : ∀ (k : Key) (key : Value), (mixKind prog w).is k key = true → Reads h key (keyD k) [] := fun k key hk => by
  rcases keyIs_shape hk with ⟨i, t, rfl, rfl⟩ | ⟨x, t, rfl, rfl⟩
  · exact .int i t
  · exact .str x t
theorem kv_vals : ∀ {kvs : List (Key × V)} {vs : List (Key × Value)}, KV kvs vs → Vals (kvs.map (·.2)) (vs.map (·.2))
  | [], _, .nil => .nil
  | _ :: _, _, .cons r t => .cons r.2 (kv_vals t)
theorem pairs_of {h : Heap} : ∀ {kvs : List (Key × V)} {vs : List (Key × Value)} {ds : List (PyData × PyData)} {bs : List Addr}, KV kvs vs → ds.map (·.1) = kvs.map (fun p => keyD p.1) → ReadsAll h (vs.map (·.2)) (ds.map (·.2)) bs → PyProof.V.PairsRead h keyD vs ds bs
  | [], _, ds, _, .nil, e, r => by
    cases ds with
    | nil => cases r; exact .nil
    | cons d ds => cases e
  | p :: kvs, _, ds, _, .cons (b := q) rr t, e, r => by
    cases ds with
    | nil => cases e
    | cons d ds =>
      rw [List.map_cons, List.map_cons] at e
      obtain ⟨e1, e2⟩ := List.cons.inj e
      obtain ⟨k, v⟩ := q
      obtain ⟨d1, d2⟩ := d
      cases r with
      | cons r1 r2 =>
        have ek : d1 = keyD k := by
          have e3 : d1 = keyD p.1 := e1
          rw [e3, rr.1]
        subst ek
        exact .cons r1 (pairs_of t e2 r2)
mutual
theorem reads_of (M : ModK X.K) (I : Inv X pins σ H s) {F : Hp} (sub : Sub F H) : ∀ {d : PyData} {v : V} {u : Value}, Dat X.K F d v → RelV v u → ∃ as, Reads s.heap u d as ∧ sysModules ∉ as
  | _, _, _, .non, r => by cases r; exact ⟨_, .none, by simp⟩
  | _, _, _, .bl b, r => by cases r; exact ⟨_, .bool b, by simp⟩
  | _, _, _, .int i, r => by obtain ⟨t, rfl⟩ := r; exact ⟨_, .int i t, by simp⟩
  | _, _, _, .str x, r => by obtain ⟨t, rfl⟩ := r; exact ⟨_, .str x t, by simp⟩
  | _, _, _, .lst h a, r => by
    cases r
    obtain ⟨its, rv, ⟨o, n, ho, hc, _, hd⟩, _⟩ := I.list (sql_sub sub h)
    obtain ⟨as, ra, na⟩ := readsAll_of M I sub a rv
    refine ⟨_, .list ho hc hd (by simpa using ra), ?_⟩
    obtain ⟨om, lm, cm⟩ := M
    refine fun z => (List.mem_cons.mp z).elim (fun e => ?_) na
    have q := I.kIn _ _ lm
    rw [e, ho] at q
    cases q
    rw [hc] at cm
    exact absurd cm (by decide)
  | _, _, _, .tup h a, r => by
    cases r
    obtain ⟨its, rv, ⟨o, ho, hc, n, hd⟩, _⟩ := I.tuple (sqt_sub sub h)
    obtain ⟨as, ra, na⟩ := readsAll_of M I sub a rv
    exact ⟨_, .tuple ho hc hd (by simpa using ra), na⟩
  | _, _, _, .dic (kvs := kvs) (ds := ds) h k a, r => by
    cases r
    obtain ⟨_, hs, vs, rel, dd⟩ := dk_of I.hok (sub _ _ h)
    obtain ⟨bs, rb, nb⟩ := readsAll_of M I sub a (kv_vals rel)
    exact ⟨_, PyProof.V.reads_dictOf key_reads dd (pairs_of rel k rb), fun z => (List.mem_cons.mp z).elim (fun e => by rw [e] at hs; exact absurd hs (by simp)) nb⟩
theorem readsAll_of (M : ModK X.K) (I : Inv X pins σ H s) {F : Hp} (sub : Sub F H) : ∀ {ds : List PyData} {vs : List V} {us : List Value}, DatA X.K F ds vs → Vals vs us → ∃ as, ReadsAll s.heap us ds as ∧ sysModules ∉ as
  | _, _, _, .nil, r => by cases r; exact ⟨_, .nil, by simp⟩
  | _, _, _, .cons h t, r => by
    cases r with
    | cons r1 r2 =>
      obtain ⟨as, x, n⟩ := reads_of M I sub h r1
      obtain ⟨bs, y, m⟩ := readsAll_of M I sub t r2
      exact ⟨_, .cons x y, by rw [List.mem_append]; exact fun z => z.elim n m⟩
end
/-- repr(e), e any data -/
def tRepr (K : PySem.W.Frag) (te : TE) : TE := fun σ H Q => te σ H fun x H1 => ∃ (F : Hp) (d : PyData), Sub F H1 ∧ Dat K F d x ∧ d.showable = true ∧ d.shown.length ≤ sizeLine ∧ d.depth ≤ 40 ∧ Q (.str d.shown) H1
theorem pe_repr {X : Cx} {e : Expr} {te : TE} {p pos : Pos} {k : Nat} (M : ModK X.K) (hG : X.A.guards = some []) (hr : Room k X.A) (hg : Gl X "repr") (hm : X.mg "repr" = none) (he : PE X e te) (hs : starEach [e] X.env = (false, eval e X.env) :: starEach [] X.env := by rfl) :
    PE X (.Call (.Name "repr" p) [e] [] pos) (tRepr X.K te) := by
  refine ⟨fun pins s σ H Q I h => ?_⟩
  refine Call_ (ld_blt I hg hm boot_repr ?_)
  refine PyProof.Rows.callWith_builtin1 (PyProof.Rows.args_cons (thn (he.run pins s σ H _ I h) fun u s1 ⟨x, H1, I1, r1, F, d, sub, dx, hsh, hz, hdp, q⟩ => PyProof.Rows.args_nil ?_) hs) hs rfl
  have hu := hr.units
  have sc : ∀ (t : Str) tk, Q (.str t) H1 → EP X pins σ Q (.str t tk) { s1 with toks := s1.toks + 1 } := fun t tk q => ⟨.str t, H1, I1.tok _, ⟨_, rfl⟩, q⟩
  have rf : ∀ {a : Addr}, x = .ref a → u = .ref a → wpAny (model X.prog X.w) X.A (call (.builtin "repr") [u]) (EP X pins σ Q) X.xe s1 := fun {a} ex eu => by
    subst ex eu
    obtain ⟨as, ra, na⟩ := reads_of M I1 sub dx rfl
    exact repr_of_reads' ra hsh (fun _ => na) hG (by omega) (fun _ _ z => z) (fun h' u tk k => ⟨.str d.shown, H1, I1.kept (t' := tk) k, ⟨_, rfl⟩, q⟩) (hsz := hz)
  cases dx with
  | non => cases r1; exact P.repr_of_none (sc _ _ q)
  | bl b =>
    cases r1
    refine P.repr_of_bool ?_
    cases b <;> exact sc _ _ q
  | int i =>
    obtain ⟨t, rfl⟩ := r1
    exact P.repr_of_int (by simpa [PyData.showable] using hsh) (sc _ _ q)
  | str y =>
    obtain ⟨t, rfl⟩ := r1
    exact P.repr_of_str (sc _ _ q) (hsz := hz)
  | lst _ _ => exact rf rfl r1
  | tup _ _ => exact rf rfl r1
  | dic _ _ _ => exact rf rfl r1
theorem e_repr {K : PySem.W.Frag} {ρ : Ro} {te : TE} {d : PyData} (h : Ev K te ρ d) (h1 : d.showable = true) (h2 : d.shown.length ≤ sizeLine) (h3 : d.depth ≤ 40) : Ev K (tRepr K te) ρ (.str d.shown) := fun F H σ s sl Q q =>
  h F H σ s sl _ fun v F1 H1 l1 r1 => ⟨F1, d, l1.s, r1, h1, h2, h3, q _ F1 H1 l1 (.str _)⟩
end
end LK

set_option Elab.async false
set_option linter.all false
set_option maxRecDepth 100000
set_option maxHeartbeats 4000000
/-! LKZ: the end of a law whose def shows data (repr): the stack's guards told, tables, bits; a hook that also writes the object at sysModules. -/
namespace LamX
open PySem PySem.Spec PyProof.Rows L2
/-- a def's promise where nothing is being shown -/
def FnOkG (P : Program) (w : World) (K : PySem.W.Frag) (mg : Str → Option Value) (base : Heap) (CX : CXT) (k : Nat) (f : Addr) (fd : FuncData) (ps : List Str) (sp : Sp) : Prop :=
  ∀ (A : Around) (outer : List Env) (s : Shared) (H : Hp) (args : Args) (us : List Value) (vs : List V) (Q : VK) (E : XK), A.guards = some [] → Room k A → Env0 P w K mg base A outer s H → BindsTo s fd args (ps.zip us) → Vals vs us → sp vs H Q E →
    codeAny (model P w) A (.call (.ref f) args) (CR CX outer P w H s Q E) s
/-- law_callTs for such a promise (turned from the library's) -/
theorem law_callG {P : Program} {w : World} {K : PySem.W.Frag} {mg mb : Str → Option Value} {CX : CXT} {k : Nat} {fa a : Addr} {cs : List (Addr × Addr)} {fd : FuncData} {x : Str} {sp : Sp} {s₁ : Shared} {vs : List Value} {ns : List Int}
    (KX : K.In s₁.heap) (hns : s₁.heap.Ns mainGlobals mg) (hb : s₁.heap.Ns builtinsNs mb) (hbb : ∀ x : Str, x ≠ "__name__" → mb x = bootBuiltins x) (hlim : s₁.heap.NoLimit) (hg : s₁.gens = #[])
    (hT : ∀ p ∈ cs, s₁.heap.get? p.2 = some { cls := .none, data := .fields #[] }) (nT : ∀ p ∈ cs, K.lookup p.2 = none) (C : ∀ p ∈ cs, PySem.W.CodeHd s₁.heap p.1 p.2)
    (hbm : ∃ (bm : Addr) (ob : Obj), mg "__builtins__" = some (.ref bm) ∧ bm ≠ builtinsNs ∧ s₁.heap.get? bm = some ob ∧ ob.cls = .type "module" ∧ ob.dict = some builtinsNs ∧ ob.data = .plain)
    (ha : s₁.heap.get? a = some { cls := .type "list", data := .seq vs.toArray }) (hi : IntsAre vs ns) (hl : ns.length ≤ sizeLine) (hr : Room k callerA)
    (F : ∀ base : Heap, K.In base → base.Ns mainGlobals mg → (∀ p ∈ cs, TabB base mg p.1 p.2) → FnOkG P w K mg base CX k fa fd [x] sp) (hbind : ∀ (s : Shared) (u : Value), BindsTo s fd ⟨[u], []⟩ [(x, u)])
    (hsp : ∀ H : Hp, (∀ p ∈ cs, H p.2 = some (.tbl #[])) → SqL K H a (ns.map V.int) → sp [.ref a] H (fun v _ => v = .bl true) fun _ _ _ => False)
    (hCX : ∀ H e s', CX [] H s₁ (fun _ _ _ => False) e s' → False) :
    codeAny (model P w) callerA (.call (.ref fa) ⟨[.ref a], []⟩) (fun r s' => r = .ok (.ret (.bool true)) ∧ OldK s₁.heap s'.heap ∧ s'.os = s₁.os ∧ AllBare s'.gens) s₁ := by
  have rv := vals_ints hi
  have lenV := hi.length
  have isT : ∀ b : Addr, b ∈ cs.map (·.2) → s₁.heap.get? b = some { cls := .none, data := .fields #[] } := fun b hb => by
    obtain ⟨p, hp, e⟩ := List.mem_map.mp hb
    rw [← e]
    exact hT p hp
  have aT : a ∉ cs.map (·.2) := fun z => by
    have q := isT a z
    rw [ha] at q
    have z' : Data.seq vs.toArray _ = Data.fields #[] := congrArg Obj.data (Option.some.inj q)
    cases z'
  have memT : ∀ p ∈ cs, p.2 ∈ cs.map (·.2) := fun p hp => List.mem_map.mpr ⟨p, hp, rfl⟩
  -- from an abstract heap in which nothing but the script and the tables may be tracked
  have core : ∀ H : Hp, (∀ p ∈ cs, H p.2 = some (.tbl #[])) → (∀ b, H b = none ∨ b ∈ cs.map (·.2) ∨ ∃ o xs, H b = some (.frz o (.lst xs))) → SqL K H a (ns.map V.int) → HOk P w H s₁.heap → (∀ b, H b ≠ none → b = a ∨ b ∈ cs.map (·.2)) → (H a ≠ none → K.lookup a = none) →
      codeAny (model P w) callerA (.call (.ref fa) ⟨[.ref a], []⟩) (fun r s' => r = .ok (.ret (.bool true)) ∧ OldK s₁.heap s'.heap ∧ s'.os = s₁.os ∧ AllBare s'.gens) s₁ := by
    intro H hH hO hS hok hA hK
    have base_of : ∀ {b : Addr} {o : Obj}, s₁.heap.get? b = some o → H b = none → (hidT s₁.heap H).get? b = some o := fun e n => hidT_get e n
    have noD : ∀ {b : Addr} {o : Obj}, s₁.heap.get? b = some o → (∀ vs n, o.data ≠ .seq vs n) → o.data ≠ .fields #[] → H b = none := fun {b o} e h1 h2 => by
      cases q : H b with
      | none => rfl
      | some u =>
        rcases hA b (by rw [q]; simp) with e' | e'
        · rw [e', ha] at e
          cases e
          exact (h1 _ _ rfl).elim
        · rw [isT b e'] at e
          cases e
          exact (h2 rfl).elim
    have noA : ∀ {b : Addr} {o : Obj} {es : Array DictEntry} {ep : Nat}, s₁.heap.get? b = some o → o.data = .dict es ep → H b = none := fun {b o es ep} e d => by
      refine noD e (fun vs n z => ?_) fun z => ?_
      · rw [d] at z
        cases z
      · rw [d] at z
        cases z
    have nsK : ∀ {b : Addr} {m : Str → Option Value}, s₁.heap.Ns b m → (hidT s₁.heap H).Ns b m := fun {b m} ⟨o, es, ep, e, d, r⟩ => ⟨o, es, ep, base_of e (noA e d), d, r⟩
    have hKb : K.In (hidT s₁.heap H) := fun b o e => base_of (KX b o e) (by
      cases q : H b with
      | none => rfl
      | some u =>
        rcases hA b (by rw [q]; simp) with e' | e'
        · rw [e'] at e q
          rw [hK (by rw [q]; simp)] at e
          cases e
        · obtain ⟨p, hp, ep⟩ := List.mem_map.mp e'
          rw [← ep, nT p hp] at e
          cases e)
    have hM : L2.Mod K mg (hidT s₁.heap H) := ⟨hKb, nsK hns, ⟨mb, nsK hb, hbb⟩, let ⟨mc, h1, h2⟩ := hlim; ⟨mc, nsK h1, h2⟩⟩
    have TB : ∀ p ∈ cs, TabB (hidT s₁.heap H) mg p.1 p.2 := fun p hp => by
      have hTp := hT p hp
      refine ⟨?_, ?_, fun z => ?_⟩
      · obtain ⟨o, us, file, tf, flags, tg, inF, text, tt, e1, r1, r2, r3, r4, r5, r6, r7, r8, hne⟩ := C p hp
        refine ⟨o, us, file, tf, flags, tg, inF, text, tt, base_of e1 (noD e1 (fun vs n z => ?_) fun z => ?_), r1, r2, r3, r4, r5, r6, r7, r8, hne⟩
        · rw [r2] at z
          cases z
        · rw [r2] at z
          cases z
          simp at r3
      · obtain ⟨bm, ob, b1, b2, b3, b4, b5, b6⟩ := hbm
        have nG : bm ≠ mainGlobals := fun q => by
          obtain ⟨o, es, ep, e, hd, _⟩ := hns
          rw [q, e] at b3
          cases b3
          rw [hd] at b6
          cases b6
        have nP : bm ≠ p.2 := fun q => by
          rw [q, hTp] at b3
          cases b3
          cases b6
        refine ⟨bm, ob, b1, b2, nG, nP, base_of b3 (noD b3 (fun vs n z => ?_) fun z => ?_), b4, b5, b6⟩
        · rw [b6] at z
          cases z
        · rw [b6] at z
          cases z
      · obtain ⟨o, es, ep, e, hd, _⟩ := hns
        rw [z, hTp] at e
        cases e
        cases hd
    have e0 : Env0 P w K mg (hidT s₁.heap H) callerA [] s₁ H := ⟨rfl, hM, fun b o e => of_hidT e, Nat.le_of_eq (hidT_size _ _), trivial, fun b hb => absurd (show b ∈ ([] : List Addr) from hb) (by simp), hok, .of_eq hg⟩
    refine codeAny_mono (F _ hKb (nsK hns) TB callerA [] s₁ H ⟨[.ref a], []⟩ [.ref a] [.ref a] _ _ rfl hr e0 (hbind s₁ (.ref a)) (.cons rfl .nil) (hsp H hH hS)) fun r s' h => ?_
    cases r with
    | error e => exact (hCX H e s' h).elim
    | ok fl =>
      cases fl with
      | next => exact False.elim h
      | brk => exact False.elim h
      | cont => exact False.elim h
      | ret u =>
        obtain ⟨v, H', os, bare, un, hok', r', q⟩ := h
        have q' : v = .bl true := q
        subst q'
        obtain rfl : u = Value.bool true := r'
        have key : ∀ b o, b ∉ cs.map (·.2) → s₁.heap.get? b = some o → s'.heap.get? b = some o := fun b o nb e => by
          cases q : H b with
          | none => exact un.keep b o e q (by intro z; exact absurd (show b ∈ ([] : List Addr) from z) (by simp)) (by simp)
          | some u =>
            rcases hO b with z | z | ⟨ob, xs, z⟩
            · rw [q] at z; cases z
            · exact absurd z nb
            · have z2 := un.frzs b ob _ z
              obtain ⟨e1, _⟩ := hok b _ z
              obtain ⟨e2, _⟩ := hok' b _ z2
              rw [e] at e1; cases e1
              exact e2
        have grown : ∀ p ∈ cs, ∃ more : Array Value, s'.heap.get? p.2 = some { cls := .none, data := .fields more } := fun p hp => by
          obtain ⟨more, z⟩ := un.tbls p.2 #[] (hH p hp)
          exact ⟨_, hok' p.2 _ z⟩
        refine ⟨rfl, ⟨fun b o e => ?_, fun b o e => ?_⟩, os, bare⟩
        · by_cases hb : b ∈ cs.map (·.2)
          · obtain ⟨p, hp, ep⟩ := List.mem_map.mp hb
            obtain ⟨more, hm⟩ := grown p hp
            rw [← ep] at e ⊢
            rw [hT p hp] at e
            cases e
            exact .inr (.inl ⟨((C p hp).tab (hT p hp)).isCodeTable, rfl, #[], more, rfl, by rw [Array.empty_append]; exact hm⟩)
          · exact .inl (key b o hb e)
        · by_cases hb : b ∈ cs.map (·.2)
          · obtain ⟨p, hp, ep⟩ := List.mem_map.mp hb
            obtain ⟨more, hm⟩ := grown p hp
            rw [← ep]
            exact ⟨_, hm⟩
          · exact ⟨o, key b o hb e⟩
  cases hk : K.lookup a with
  | some o =>
    have e := KX a o hk
    rw [ha] at e
    cases e
    refine core (fun b => if b ∈ cs.map (·.2) then some (.tbl #[]) else none) (fun p hp => if_pos (memT p hp)) (fun b => ?_) (.inr ⟨_, vs.toArray, _, hk, rfl, rfl, rfl, by rw [List.size_toArray, lenV]; exact hl, by simpa using rv⟩) (fun b u z => ?_) (fun b z => ?_) fun z => absurd (show (if a ∈ cs.map (·.2) then some (HO.tbl #[]) else none) = none from if_neg aT) z
    · by_cases hb : b ∈ cs.map (·.2)
      · exact .inr (.inl hb)
      · exact .inl (if_neg hb)
    · by_cases hb : b ∈ cs.map (·.2)
      · have z' := (if_pos hb).symm.trans z
        cases z'
        exact isT b hb
      · have z' := (if_neg hb).symm.trans z
        cases z'
    · by_cases hb : b ∈ cs.map (·.2)
      · exact .inr hb
      · exact absurd (if_neg hb) z
  | none =>
    refine core (fun b => if b = a then some (.frz { cls := .type "list", data := .seq vs.toArray } (.lst (ns.map V.int))) else if b ∈ cs.map (·.2) then some (.tbl #[]) else none) (fun p hp => (if_neg (show ¬ p.2 = a from fun z => aT (by rw [← z]; exact memT p hp))).trans (if_pos (memT p hp))) (fun b => ?_)
      (.inl (.inr ⟨{ cls := .type "list", data := .seq vs.toArray }, if_pos rfl⟩)) (fun b u z => ?_) (fun b z => ?_) fun _ => hk
    · by_cases hb : b = a
      · exact .inr (.inr ⟨_, _, if_pos hb⟩)
      · by_cases hb2 : b ∈ cs.map (·.2)
        · exact .inr (.inl hb2)
        · exact .inl ((if_neg hb).trans (if_neg hb2))
    · by_cases hb : b = a
      · have z' := (if_pos hb).symm.trans z
        cases z'
        rw [hb]
        exact ⟨ha, by rw [List.length_map]; exact hl, vs, _, rv, ha⟩
      · have z1 := (if_neg hb).symm.trans z
        by_cases hb2 : b ∈ cs.map (·.2)
        · have z' := (if_pos hb2).symm.trans z1
          cases z'
          exact isT b hb2
        · have z' := (if_neg hb2).symm.trans z1
          cases z'
    · by_cases hb : b = a
      · exact .inl hb
      · by_cases hb2 : b ∈ cs.map (·.2)
        · exact .inr hb2
        · exact absurd ((if_neg hb).trans (if_neg hb2)) z

def LawAtG (l : PySem.W.OpenLaw) (w : World) (K : PySem.W.Frag) (CX : CXT) (k n : Nat) (x : Str) (mg : Str → Option Value) (fa : Addr) (h : Heap) : Prop :=
  ∃ (fd : FuncData) (cs : List (Addr × Addr)) (sp : Sp), (∀ p ∈ cs, h.get? p.2 = some { cls := .none, data := .fields #[] }) ∧ (∀ p ∈ cs, K.lookup p.2 = none) ∧ (∀ p ∈ cs, PySem.W.CodeHd h p.1 p.2) ∧ (∀ (s : Shared) (u : Value), BindsTo s fd ⟨[u], []⟩ [(x, u)]) ∧
    (∀ (H : Hp) (a : Addr) (ns : List Int), ns.length ≤ n → (∀ z ∈ ns, Builtin.Int.intBits z ≤ 1048576) → (∀ p ∈ cs, H p.2 = some (.tbl #[])) → SqL K H a (ns.map V.int) → sp [.ref a] H (fun v _ => v = .bl true) fun _ _ _ => False) ∧
    ∀ base : Heap, K.In base → base.Ns mainGlobals mg → (∀ p ∈ cs, TabB base mg p.1 p.2) → FnOkG l.prog w K mg base CX k fa fd [x] sp
theorem walk_ofG {l : PySem.W.OpenLaw} {n k : Nat} {q : Program} {loose : List Str} {XP : (Str → Option Value) → Heap → Prop} {YP : World → Heap → Prop} {d : DefRec} {CX : World → CXT} {x : Str}
    (hn : l.most = some n) (hn2 : n ≤ sizeLine) (hdf : d.params.defaults = []) (hr : Room k callerA)
    (F : ∀ (w : World) (mg : Str → Option Value) (fa : Addr) (h : Heap), YP w h → h.Ns mainGlobals mg → mg d.name = some (.ref fa) → ∃ K : PySem.W.Frag, K.In h ∧ LawAtG l w K (CX w) k n x mg fa h)
    (hCX : ∀ (w : World) (H : Hp) (s : Shared) (e : Value) (s' : Shared), CX w [] H s (fun _ _ _ => False) e s' → False) :
    PySem.W.WalkO q loose XP YP l.row.toRowW d [] (fun f vs => PySem.call f vs) := by
  refine Att.attach_callB hn hdf fun w s₀ s₁ mg mb fa o pm cd doc a vs ns G Y ho hd hcd hmg hobj hints hlen hbits hg => ?_
  obtain ⟨K, KX, fd, cs, sp, hT, nT, C, hb, hsp, hF⟩ := F w mg fa _ Y G.T.g hmg
  exact law_callG KX G.T.g G.T.b G.T.builtins G.T.nolimit hg hT nT C G.T.bmain hobj hints (Nat.le_trans hlen hn2) hr hF hb (fun H hH hS => hsp H a ns hlen hbits hH hS) fun H e s' => hCX w H s₁ e s'
end LamX
namespace LK
open PySem PySem.Spec PyProof.Rows L2
/-- the law's def -/
theorem fnOkG {P : Program} {w : World} {K : PySem.W.Frag} {mg : Str → Option Value} {base : Heap} {x qual : Str} {params : Arguments} {body : List Stmt} {scope : Scope} {kws : List (Str × V)} {f : Addr} {fd : FuncData} {CX : CXT} {N ps : List Str} {k : Nat} {sp : Sp}
    (F : FunD K x qual params body scope [] kws f fd) (S : FnScope N ps scope) (len : ∀ vs H Q E, sp vs H Q E → vs.length = ps.length)
    (hb : ∀ (cdv : Value) (A : Around) (outer : List Env) (s : Shared) (H : Hp) (vs : List V) (Q : VK) (E : XK), fd.code = cdv → A.guards = some [] → Room k (A.deeper (envOfC qual scope s.heap.objs.size f cdv)) → sp vs H Q E →
      ∃ t, PSs (cxOf CX P w K mg base N qual scope f cdv A outer s H E) body t ∧ t { nx := fun _ H' => Q .non H', rt := Q } (L2.start N vs) H) : LamX.FnOkG P w K mg base CX (k + 1) f fd ps sp := by
  obtain ⟨oc, od, dV, kV, doc, pm, an, cdv, ct, osl, rfl, lk, hcd, _, _⟩ := F.ex
  exact fun A outer s H args us vs Q E hg hr e0 hb' r h => LamX.run_ofS (base := base) (K := K) lk hcd S hr e0 hb' r (len _ _ _ _ h) fun hr' => hb cdv A outer s H vs Q E rfl hg hr' h
end LK

set_option Elab.async false
set_option linter.all false
set_option maxRecDepth 100000
set_option maxHeartbeats 2000000
/-! LKO: defs by name, list + list, len of an own object, facts of classes as Bools. -/
namespace LK
open PySem PySem.Spec PyProof.Rows L2
/-! ### defs by name -/
/-- the module's x is a def that keeps sp -/
structure FOk (P : Program) (w : World) (K : PySem.W.Frag) (mg : Str → Option Value) (base : Heap) (CX : CXT) (k : Nat) (x : Str) (ps : List Str) (sp : Sp) : Prop where
  g : mg x = some (.ref (He.ga K x))
  kp : PySem.W.keepIn K (.ref (He.ga K x)) = true
  f : ∃ fd, FnOk P w K mg base CX k (He.ga K x) fd ps sp ∧ Binds K fd ps []
section
variable {X : Cx} {CX : CXT} {k : Nat} {x : Str} {ps : List Str} {sp : Sp} {E : XK} {t : TA} {p pos : Pos} {e : Expr} {es : List Expr}
theorem pe_fn (F : FOk X.prog X.w X.K X.mg X.base CX k x ps sp) (hr : Room k X.A) (hx : Passes CX X E) (ha : PA X (e :: es) t) (hg : Gl X x := by rfl) (hdb : (x == ("__debug__" : Str)) = false := by decide)
    (he : starEach (e :: es) X.env = (false, eval e X.env) :: starEach es X.env := by rfl) (hpl : (backTo pos (starEach es X.env)).any (·.1) = false := by rfl) : PE X (.Call (.Name x p) (e :: es) [] pos) (tCall sp [] E t) := by
  obtain ⟨g, kp, fd, F1, b⟩ := F
  exact pe_call F1 hr hg g kp b .nil hx ha hdb he hpl
end
/-! ### list + list, any lists that can be read -/
def rCatL (K : PySem.W.Frag) : R2 := fun x y H Q => ∃ a b xs ys, x = .ref a ∧ y = .ref b ∧ SqL K H a xs ∧ SqL K H b ys ∧ xs.length + ys.length ≤ sizeLine ∧ ∀ p, H p = none → Q (.ref p) (upd H p (.lst (xs ++ ys)))
theorem op_catL {X : Cx} : OpR X (binaryOp .Add) (rCatL X.K) := by
  intro pins s σ H x y v u Q I rx ry h
  obtain ⟨l, b, xs, zs, rfl, rfl, hH, hB, hz, q⟩ := h
  cases rx
  cases ry
  obtain ⟨its, r, ⟨⟨oc, od, dt, osl⟩, n, e, hc, hx, hd⟩, _⟩ := I.list hH
  obtain ⟨its2, r2, ⟨⟨oc2, od2, dt2, osl2⟩, n2, e2, hc2, hx2, hd2⟩, _⟩ := I.list hB
  have l1 := r.length
  have l2 := r2.length
  simp only at hc hx hd hc2 hx2 hd2
  subst hc hd hc2 hd2
  refine concat_meets ⟨_, e, rfl⟩ ⟨_, e2, rfl⟩ noFill_list_add seq_list_add PySem.F.slot_list_add PySem.F.entry_list_add (PySem.F.args_list_add_2 _ _) (list_addW l b its.toArray its2.toArray n n2 od od2 osl osl2 (by rw [List.size_toArray, List.size_toArray]; omega)) ⟨e, e2, ?_⟩
  have ea : its.toArray ++ its2.toArray = (its ++ its2).toArray := by simp
  rw [ea]
  exact ⟨.ref _, _, I.lnew (t' := s.toks) (r.append r2) (by rw [List.length_append]; omega), rfl, q _ I.fresh⟩
section
variable {K : PySem.W.Frag} {ρ : Ro} {ta tb : TE}
theorem e_catL {ds es : List PyData} (ha : Ev K ta ρ (.list ds)) (hb : Ev K tb ρ (.list es)) (hz : ds.length + es.length ≤ sizeLine) : Ev K (tOp (rCatL K) ta tb) ρ (.list (ds ++ es)) :=
  e_op ha hb fun F H x y s rx ry Q q => by
    cases rx with
    | lst h1 a1 =>
      cases ry with
      | lst h2 a2 => exact ⟨_, _, _, _, rfl, rfl, sql_sub s h1, sql_sub s h2, by rw [← a1.length, ← a2.length]; exact hz, fun p hp => q (.ref p) (upd F p _) _ (Le.new s hp) (.lst (SqL.of upd_same) ((a1.app a2).mono (Sub.new (s.none hp))))⟩
end
/-! ### len of an own object -/
/-- len(o), the class's __len__ promising sp -/
def rLenO (C : Addr) (sp : Sp) : List V → Hp → VK → Prop := fun xs H Q => ∃ (a dx : Addr) (fs : List (Str × V)), xs = [.ref a] ∧ H a = some (.ins C dx fs) ∧ sp [.ref a] H (fun v H' => ∃ n : Nat, v = .int n ∧ n < 2 ^ 62 ∧ Q (.int n) H') E0
structure LenOf (K : PySem.W.Frag) (C f : Addr) : Prop where
  at_ : PySem.W.findIn K (.ref C) "__len__" = some (some (.ref f))
  ty : PySem.W.typeIn K (.ref f) = some (.type "function")
theorem call_lenO {X : Cx} {k : Nat} {C f : Addr} {fd : FuncData} {ps : List Str} {sp : Sp} (L : LenOf X.K C f) (F : FnOk X.prog X.w X.K X.mg X.base CX0 k f fd ps sp) (hr : Room (k + 1) X.A) (hb : Binds X.K fd ps []) : CallR X (.builtin "len") (rLenO C sp) := by
  intro pins s σ H xs us Q I r h
  obtain ⟨a, dx, fs, rfl, ea, h⟩ := h
  obtain ⟨u, rfl, ru⟩ := vals1 r
  obtain rfl : u = Value.ref a := ru
  obtain ⟨mA, O, _⟩ := ins_get I.hok ea
  obtain ⟨od, J, _⟩ := O.look
  refine Calls.call_function_entry kind_len plain_len entry_len (args_len1 _) ?_
  unfold Builtin.«len»
  refine wpAny_bind (m := oneArg "len" _) (wpAny_pure ?_)
  have hl := F.len _ _ _ _ h
  refine wpAny_bind (m := callSpecial? (.ref a) (PySem.Str.ofString "__len__")) (PySem.W.special_fn (name := "__len__") (args := []) I.kIn J L.at_ L.ty (wpAny_call (codeAny_mono (F.run X.A.in1 X.stack s H ⟨[.ref a], []⟩ [.ref a] [.ref a] _ E0 hr.in1 I.env0.in1 (by
    have := hb s [.ref a] I.kIn (by simpa using hl)
    simpa using this) (.cons rfl .nil) h) fun r s' hq => ?_)))
  cases r with
  | error e => exact (show False from hq).elim
  | ok fl =>
    cases fl with
    | ret u =>
      obtain ⟨v, H', I', rv, n, ev, hn, q⟩ := I.after hq
      subst ev
      obtain ⟨t, rfl⟩ := rv
      refine wpAny_bind (wpAny_holding (wpAny_pure ?_))
      refine wpAny_bind (wpAny_letGo ?_)
      show wpAny _ _ (if ((n : Nat) : Int) < 0 then _ else _) _ _ _
      rw [if_neg (by omega)]
      show wpAny _ _ (if ((n : Nat) : Int) ≥ 2 ^ 63 then _ else _) _ _ _
      rw [if_neg (by omega)]
      exact wpAny_bind (wpAny_mkInt (wpAny_pure ⟨_, rfl, ⟨.int n, H', I'.tok _, ⟨_, rfl⟩, q⟩⟩))
    | next => exact False.elim hq
    | brk => exact False.elim hq
    | cont => exact False.elim hq
/-! ### classes' facts as Bools -/
def lenB (K : PySem.W.Frag) (x : Str) : Bool := decide (PySem.W.findIn K (.ref (He.ga K x)) "__len__" = some (some (.ref (He.ma K (He.ga K x) "__len__")))) && decide (PySem.W.typeIn K (.ref (He.ma K (He.ga K x) "__len__")) = some (.type "function"))
theorem lenB_ok {K : PySem.W.Frag} {x : Str} (h : lenB K x = true) : LenOf K (He.ga K x) (He.ma K (He.ga K x) "__len__") := by
  obtain ⟨h1, h2⟩ := Bool.and_eq_true_iff.mp h
  exact ⟨of_decide_eq_true h1, of_decide_eq_true h2⟩
/-- a property: where its getter stands -/
def getterOf (K : PySem.W.Frag) (x f : Str) : Addr := match PySem.W.recIn K (He.ma K (He.ga K x) f) "property" with
  | some (.ref g :: _) => g
  | _ => 0
def propB (K : PySem.W.Frag) (x f : Str) : Bool := decide (PySem.W.findIn K (.ref (He.ga K x)) f = some (some (.ref (He.ma K (He.ga K x) f)))) && (decide (PySem.W.specialIn K (.ref (He.ma K (He.ga K x) f)) "__get__" = some (some (.builtin "property.__get__"))) &&
  (decide (PySem.W.takesIn K (.ref (He.ma K (He.ga K x) f)) = some true) && (match PySem.W.recIn K (He.ma K (He.ga K x) f) "property" with
    | some (.ref _ :: _) => true
    | _ => false)))
theorem propB_ok {K : PySem.W.Frag} {x f : Str} (h : propB K x f = true) : PropOf K (He.ga K x) f (He.ma K (He.ga K x) f) (getterOf K x f) := by
  obtain ⟨h1, h⟩ := Bool.and_eq_true_iff.mp h
  obtain ⟨h2, h⟩ := Bool.and_eq_true_iff.mp h
  obtain ⟨h3, h4⟩ := Bool.and_eq_true_iff.mp h
  refine ⟨of_decide_eq_true h1, of_decide_eq_true h2, of_decide_eq_true h3, ?_⟩
  unfold getterOf
  split at h4
  · rename_i g rest e
    exact ⟨rest, by rw [e]⟩
  · cases h4
/-- a getter of the written part: the def's parts told -/
def fnAt (K : PySem.W.Frag) (f : Addr) : He.FnW := match K.lookup f with
  | some ⟨_, _, .func fd, _⟩ => some (fd.name, fd.qualname, fd.params, fd.body, fd.scope, fd.globals, fd.closure, fd.builtins)
  | _ => none
end LK

set_option Elab.async false
set_option linter.all false
set_option maxRecDepth 100000
set_option maxHeartbeats 2000000
/-! LKH: the head's hook: facts, defs, getters of properties, tables, the object at sysModules. -/
namespace LK
open PySem PySem.Spec PyProof.Rows L2
/-- a getter: the class, the property, the def -/
structure GetD where
  cls : Str
  prop : Str
  d : He.DefD
def okAt (K : PySem.W.Frag) (f : Addr) (d : He.DefD) : Bool := PySem.W.keepIn K (.ref f) && (match K.lookup f with
  | some ⟨_, _, .func fd, _⟩ => PySem.W.codeIn K fd.code d.qual && (He.dflB K fd.defaults (d.dvs K) && He.kwdB K fd.kwdefaults (d.kws K))
  | _ => false)
theorem funAt {K : PySem.W.Frag} {f : Addr} {d : He.DefD} (e : fnAt K f = d.val) (c : okAt K f d = true) : ∃ fd, FunD K d.name d.qual d.params d.body d.scope (d.dvs K) (d.kws K) f fd := by
  obtain ⟨kp, c2⟩ := He.ba c
  unfold fnAt at e
  cases q : K.lookup f with
  | none => rw [q] at c2; cases c2
  | some o =>
    obtain ⟨oc, od, dt, osl⟩ := o
    rw [q] at c2 e
    cases dt with
    | func fd =>
      obtain ⟨n1, n2, n3, n4, n5, n6, n7, n8, n9, n10, n11, n12, n13, n14, n15⟩ := fd
      have e2 : (some (n1, n2, n3, n4, n5, n6, n7, n15) : He.FnW) = some (d.name, d.qual, d.params, .stmts d.body, d.scope, mainGlobals, [], builtinsNs) := e
      simp only [Option.some.injEq, Prod.mk.injEq] at e2
      obtain ⟨h1, h2, h3, h4, h5, h6, h7, h8⟩ := e2
      subst h1 h2 h3 h4 h5 h6 h7 h8
      obtain ⟨k1, k2⟩ := He.ba (show (PySem.W.codeIn K n13 d.qual && (He.dflB K n8 (d.dvs K) && He.kwdB K n9 (d.kws K))) = true from c2)
      obtain ⟨k3, k4⟩ := He.ba k2
      exact ⟨_, ⟨oc, od, n8, n9, n10, n11, n12, n13, n14, osl, rfl, q, k1, He.dflB_ok k3, He.kwdB_ok k4⟩, kp⟩
    | _ => cases c2
/-- what the head tells -/
structure Says (fa : List He.Fa) (fn : List He.DefD) (gs : List GetD) (tf : List He.Defn) (ex : PySem.W.Frag → Bool) (w : World) (h : Heap) (K : PySem.W.Frag) : Prop where
  x : He.SaysX fa fn [] tf ex w h K
  g : gs.map (fun p => fnAt K (getterOf K p.cls p.prop)) = gs.map fun p => p.d.val
  gok : gs.all (fun p => okAt K (getterOf K p.cls p.prop) p.d) = true
theorem Says.fact {fa : List He.Fa} {fn : List He.DefD} {gs : List GetD} {tf : List He.Defn} {ex : PySem.W.Frag → Bool} {w : World} {h : Heap} {K : PySem.W.Frag} (c : Says fa fn gs tf ex w h K) (i : Nat) {f : He.Fa} (e : fa[i]? = some f := by rfl) : f.ok K = true := c.x.t.d.fact i e
theorem Says.def_ {fa : List He.Fa} {fn : List He.DefD} {gs : List GetD} {tf : List He.Defn} {ex : PySem.W.Frag → Bool} {w : World} {h : Heap} {K : PySem.W.Frag} (c : Says fa fn gs tf ex w h K) (i : Nat) {d : He.DefD} (e : fn[i]? = some d := by rfl) :
    ∃ fd, FunD K d.name d.qual d.params d.body d.scope (d.dvs K) (d.kws K) (He.fAd K d.at_) fd := c.x.t.d.def_ i e
theorem Says.get {fa : List He.Fa} {fn : List He.DefD} {gs : List GetD} {tf : List He.Defn} {ex : PySem.W.Frag → Bool} {w : World} {h : Heap} {K : PySem.W.Frag} (c : Says fa fn gs tf ex w h K) (i : Nat) {p : GetD} (e : gs[i]? = some p := by rfl) :
    ∃ fd, FunD K p.d.name p.d.qual p.d.params p.d.body p.d.scope (p.d.dvs K) (p.d.kws K) (getterOf K p.cls p.prop) fd := by
  have z : (gs.map (fun p => fnAt K (getterOf K p.cls p.prop)))[i]? = (gs.map fun p => p.d.val)[i]? := by rw [c.g]
  rw [List.getElem?_map, List.getElem?_map, e] at z
  exact funAt (Option.some.inj z) (List.all_eq_true.mp c.gok p (List.mem_of_getElem? e))
def asM (g : Addr → Option Obj) (n : Nat) : List Addr := sysModules :: cStatics :: He.asD g n
abbrev AlM : Type := He.AlX × List He.FnW
def obsM (n : Nat) (fa : List He.Fa) (fn : List He.DefD) (gs : List GetD) (tf : List He.Defn) (ex : PySem.W.Frag → Bool) (g : Addr → Option Obj) : AlM := let K := He.frT g (asM g n)
  ((He.obsT fa fn [] K, ex K && (gs.all (fun p => okAt K (getterOf K p.cls p.prop) p.d) && He.tabsB g tf K)), gs.map fun p => fnAt K (getterOf K p.cls p.prop))
def valM (fn : List He.DefD) (gs : List GetD) (w : World) : AlM := (He.valX fn [] w, gs.map fun p => p.d.val)
theorem saysM_of {n : Nat} {fa : List He.Fa} {fn : List He.DefD} {gs : List GetD} {tf : List He.Defn} {ex : PySem.W.Frag → Bool} {w : World} {h : Heap} (e : obsM n fa fn gs tf ex h.get? = valM fn gs w) : Says fa fn gs tf ex w h (He.frT h.get? (asM h.get? n)) := by
  generalize hK : He.frT h.get? (asM h.get? n) = K
  unfold obsM at e
  rw [hK] at e
  have e1 : He.obsT fa fn [] K = He.valT fn [] w := congrArg (fun z : AlM => z.1.1) e
  have e2 : (ex K && (gs.all (fun p => okAt K (getterOf K p.cls p.prop) p.d) && He.tabsB h.get? tf K)) = true := congrArg (fun z : AlM => z.1.2) e
  have e3 : gs.map (fun p => fnAt K (getterOf K p.cls p.prop)) = gs.map fun p => p.d.val := congrArg (fun z : AlM => z.2) e
  obtain ⟨h1, h2⟩ := He.ba e2
  obtain ⟨h0, h2⟩ := He.ba h2
  have key : ∀ p ∈ tf, PySem.W.codeHdIn K (He.cT K p).1 (He.cT K p).2 = true ∧ ∃ o, h.get? (He.cT K p).2 = some o ∧ He.emptyTab o = true := fun p hp => by
    obtain ⟨h3, h4⟩ := He.ba (List.all_eq_true.mp h2 p hp)
    refine ⟨h3, ?_⟩
    cases q : h.get? (He.cT K p).2 with
    | none => rw [q] at h4; cases h4
    | some o => rw [q] at h4; exact ⟨o, rfl, h4⟩
  refine ⟨⟨e1, h1, fun p hp => (key p hp).1, fun p hp => ?_, fun p hp => ?_⟩, e3, h0⟩
  · obtain ⟨_, o, q, z⟩ := key p hp
    rw [← hK] at q ⊢
    exact He.frT_none q z
  · obtain ⟨_, o, q, z⟩ := key p hp
    rw [q, He.emptyTab_eq z]
def hookM (n : Nat) (fa : List He.Fa) (fn : List He.DefD) (gs : List GetD) (tf : List He.Defn) (ex : PySem.W.Frag → Bool) : PySem.W.Hook where
  α := AlM
  obs := fun s => obsM n fa fn gs tf ex s.heap.get?
  val := fun w => valM fn gs w
  says := fun w h => ∃ K : PySem.W.Frag, K.In h ∧ Says fa fn gs tf ex w h K
  of := fun _ _ e => ⟨_, He.frT_in, saysM_of e⟩
  keeps := fun _ _ _ ⟨K, hK, c⟩ k => ⟨K, PySem.W.Frag.In.keeps hK k, ⟨⟨c.x.t, c.x.more, c.x.hd, c.x.out, fun p hp => k _ _ (c.x.empty p hp)⟩, c.g, c.gok⟩⟩
theorem obsM_eq {n : Nat} {fa : List He.Fa} {fn : List He.DefD} {gs : List GetD} {tf : List He.Defn} {ex : PySem.W.Frag → Bool} {g : Addr → Option Obj} {s : Shared} (h : ∀ a, g a = s.heap.get? a) : obsM n fa fn gs tf ex g = (hookM n fa fn gs tf ex).obs s := by
  have e : g = s.heap.get? := funext h
  rw [e] <;> rfl
/-! ### own error classes -/
def oexB (K : PySem.W.Frag) (C : Addr) : Bool := (match K.lookup C with
  | some ⟨.type T, _, .cls cd, sl⟩ => decide (T = "type") && (match cd.mro, sl.toList with
    | .ref C' :: bm, [_, _, _, _, some (.builtin n), _] => decide (C' = C) && (decide (n = "ValueError.__new__") && (!cd.hasDel && (cd.hasDict && PySem.HandSPX.refsVE bm)))
    | _, _ => false)
  | _ => false) && (decide (PySem.W.findIn K (.ref C) "__setattr__" = some (some (.builtin "object.__setattr__"))) && (decide (PySem.W.subIn K (.ref C) (.type "BaseException") = some true) && (decide (PySem.W.typeIn K (.ref C) = some (.type "type")) && PySem.W.keepIn K (.ref C))))
theorem oexB_ok {K : PySem.W.Frag} {C : Addr} (h : oexB K C = true) : OexC K C := by
  obtain ⟨q, h⟩ := He.ba h
  obtain ⟨h1, h⟩ := He.ba h
  obtain ⟨h2, h⟩ := He.ba h
  obtain ⟨h3, h4⟩ := He.ba h
  refine ⟨?_, of_decide_eq_true h1, of_decide_eq_true h2, of_decide_eq_true h3, h4⟩
  split at q
  · rename_i T dd cd sl ho
    obtain ⟨hT, z⟩ := He.ba q
    clear q
    obtain rfl := of_decide_eq_true hT
    split at z
    · rename_i C' bm k0 k1 k2 k3 n k5 hm hs
      obtain ⟨q1, z1⟩ := He.ba z
      obtain ⟨q2, z2⟩ := He.ba z1
      obtain ⟨q3, z3⟩ := He.ba z2
      obtain ⟨q4, q5⟩ := He.ba z3
      obtain rfl := of_decide_eq_true q1
      obtain rfl := of_decide_eq_true q2
      obtain ⟨nm, bs, mro, ns, qn, hd, sn, sub, ab, col, del⟩ := cd
      dsimp only at hm q3 q4
      have q3' : del = false := by simpa using q3
      subst hm q3' q4
      have hsl : sl = #[k0, k1, k2, k3, some (.builtin "ValueError.__new__"), k5] := by
        obtain ⟨l⟩ := sl
        simp only at hs
        rw [hs]
      subst hsl
      exact ⟨nm, qn, ns, bs, bm, sn, sub, ab, col, dd, k0, k1, k2, k3, k5, ho, q5⟩
    · cases z
  · cases q
/-- what is known of an own error class x whose __init__ stores the field f -/
structure ErrC (K : PySem.W.Frag) (x f : Str) : Prop where
  oex : OexC K (He.ga K x)
  ini : PySem.W.findIn K (.ref (He.ga K x)) "__init__" = some (some (.ref (He.ma K (He.ga K x) "__init__")))
  ity : PySem.W.typeIn K (.ref (He.ma K (He.ga K x) "__init__")) = some (.type "function")
  no : PySem.W.findIn K (.ref (He.ga K x)) f = some none
  xf : XfC K (He.ga K x)
def errB (K : PySem.W.Frag) (x f : Str) : Bool := oexB K (He.ga K x) && (decide (PySem.W.findIn K (.ref (He.ga K x)) "__init__" = some (some (.ref (He.ma K (He.ga K x) "__init__")))) &&
  (decide (PySem.W.typeIn K (.ref (He.ma K (He.ga K x) "__init__")) = some (.type "function")) && (decide (PySem.W.findIn K (.ref (He.ga K x)) f = some none) && xfB K (He.ga K x))))
theorem errB_ok {K : PySem.W.Frag} {x f : Str} (h : errB K x f = true) : ErrC K x f := by
  obtain ⟨h1, h⟩ := He.ba h
  obtain ⟨h2, h⟩ := He.ba h
  obtain ⟨h3, h⟩ := He.ba h
  obtain ⟨h4, h5⟩ := He.ba h
  exact ⟨oexB_ok h1, of_decide_eq_true h2, of_decide_eq_true h3, of_decide_eq_true h4, xfB_ok h5⟩
/-- its __init__: the error is new, its field is set -/
def spIni (C : Addr) (f : Str) : Sp := fun vs H Q _ => ∃ (a : Addr) (v : V), vs = [.ref a, v] ∧ H a = some (exo a C none) ∧ ∀ dx, H dx = none → dx ≠ a → Q .non (upd (upd H dx (exd dx [(f, v)])) a (exo a C (some dx)))
theorem rd_ini {K : PySem.W.Frag} {x f t : Str} {N : List Str} {Q : VK} {vs : List V} {H : Hp} {E : XK} (T : ErrC K x f) (h : spIni (He.ga K x) f vs H Q E) :
    tSeq (tDrop (tVeI K (tCons (tVar 0) (tCons (tC (.str t)) tNil)))) (tOst K f (tVar 0) (tVar 1)) { nx := fun _ H' => Q .non H', rt := Q } (L2.start N vs) H := by
  obtain ⟨a, v, rfl, ea, q⟩ := h
  exact ⟨.ref a, rfl, a, He.ga K x, [.str t], rfl, by show 1 ≤ 1000; decide, T.oex, ea, v, rfl, .ref a, rfl, a, He.ga K x, rfl, T.oex, T.no, .inl ⟨ea, fun dx n ne => q dx n ne⟩⟩
/-- what a raise of x(e) asks -/
def tRaise (C : Addr) (f : Str) (te : TE) (E : XK) : TS := fun _ σ H => tMkO C (spIni C f) [] (tCons te tNil) σ H fun cls d H' => E cls d H'
theorem ps_raiseC {X : Cx} {x f : Str} {k : Nat} {fd : FuncData} {e : Expr} {te : TE} {p pos rpos : Pos} {E : XK} (T : ErrC X.K x f) (F1 : FnOk X.prog X.w X.K X.mg X.base CX0 k (He.ma X.K (He.ga X.K x) "__init__") fd ["self", f] (spIni (He.ga X.K x) f)) (hb : Binds X.K fd ["self", f] [])
    (hr : Room (k + 1) X.A) (hc : X.calm = true) (tk : Takes X (fun cls d _ H => E cls d H)) (hg : Gl X x) (hm : X.mg x = some (.ref (He.ga X.K x))) (he : PE X e te) (hdb : (x == ("__debug__" : Str)) = false := by decide)
    (hst : starEach [e] X.env = (false, eval e X.env) :: starEach [] X.env := by rfl) (hpl : (backTo pos (starEach [] X.env)).any (·.1) = false := by rfl) :
    PS X (.Raise (some (.Call (.Name x p) [e] [] pos)) none rpos) (tRaise (He.ga X.K x) f te E) :=
  ps_raise (pos := rpos) hc tk (pmk_oex (CX := CX0) (p := p) (pos := pos) T.oex T.ini T.ity F1 hr hb .nil (fun _ _ _ _ _ _ _ z => z.elim) hg hm (pa_cons he pa_nil hst) hdb hst hpl)
section
variable {S : Addr → Prop} {J : JP} {te : TE} {ρ : Ro} {Nx : Ro → JP} {R : V → JP} {R0 : Hp → V → Prop} {C : Addr} {f : Str} {E : XK}
/-- raise x(e): what is wished of the error, its dict d new -/
theorem s_raise (h : EvR te ρ R0) (c : Cl J) (hE : ∀ v F H d, Sub F H → J F H → R0 F v → H d = none → E (.ref C) (some d) (upd H d (.xd [(f, v)]))) : St S J (tRaise C f te E) ρ Nx R := fun F H σ s j sl D _ _ =>
  h F H σ s sl _ fun v F1 H1 l1 r1 => by
    refine ⟨by show 1 ≤ 1000; decide, fun a na => ⟨a, v, rfl, upd_same, fun dx nd ne => ?_⟩⟩
    have nd1 : H1 dx = none := by rw [upd_ne ne] at nd; exact nd
    refine ⟨rfl, dx, [(f, v)], upd_same, by rw [upd_ne ne]; exact upd_same, nd1, ?_⟩
    have e : upd (del (upd (upd (upd H1 a (exo a C none)) dx (exd dx [(f, v)])) a (exo a C (some dx))) a) dx (.xd [(f, v)]) = upd H1 dx (.xd [(f, v)]) := by
      funext b
      by_cases hb : b = dx
      · rw [hb, upd_same, upd_same]
      · rw [upd_ne hb, upd_ne hb]
        by_cases ha : b = a
        · rw [ha, del_same, na]
        · rw [del_ne ha, upd_ne ha, upd_ne hb, upd_ne ha]
    rw [e]
    exact hE v F1 H1 dx l1.s (c F H F1 H1 l1 j) r1 nd1
end
end LK

set_option Elab.async false
set_option linter.all false
set_option maxRecDepth 100000
set_option maxHeartbeats 2000000
/-! LKB: more built-ins on data: sorted of texts (a list or a tuple), all, tuple(), list(), slices, items, appends. -/
namespace LK
open PySem PySem.Spec PyProof.Rows L2
section
variable {prog : Program} {w : World} {A : Around} {E : Value → Shared → Prop} {s : Shared}
theorem lk_collect_tuple {l : Addr} {vs : List Value} {Q : List Value → Shared → Prop} (hl : s.heap.IsTuple l vs.toArray)
    (h : Q vs { s with heap := (s.heap.push (seqObj "list" #[] 0)).update s.heap.objs.size (Obj.mapSeq (· ++ vs.toArray)) }) (hsz : vs.length ≤ sizeLine) : wpAny (model prog w) A (collect (.ref l)) Q E s := by
  obtain ⟨o, ho, hc, n, hd⟩ := id hl
  have ho' : (s.heap.push (seqObj "list" #[] 0)).get? l = some o := Heap.get?_push_of_some _ ho
  unfold collect
  refine wpAny_bind (wpAny_runValue (codeAny_builtin entry_proto_collect' ?_))
  show wpAny _ _ (do again (.builtin "list.__iadd__" ⟨[← newList [], .ref l], []⟩)) _ _ s
  refine wpAny_bind (wpAny_newList (wpAny_pure ⟨Code.quiet_builtin _ (by decide +kernel), codeAny_builtin entry_list_iadd' ?_⟩))
  show wpAny _ _ (Builtin.List.listExtendWith (.ref s.heap.objs.size) (.ref l) (.ref s.heap.objs.size)) _ _ { s with heap := s.heap.push (seqObj "list" #[] 0) }
  unfold Builtin.List.listExtendWith
  refine wpAny_bind (wpAny_typeOf (T := "tuple") ⟨o, ho', hc⟩ ?_)
  rw [if_pos (by rw [show (Value.type "tuple" == Value.type "tuple") = true from rfl]; simp)]
  refine wpAny_bind (listItems_at ho' hd (wpAny_bind (listItems_at (xs := #[]) (n := 0) (Heap.get?_push_size _ rfl) rfl ?_)))
  rw [if_neg (by simp)]
  refine wpAny_bind (listUpdate_at (xs := #[]) (n := 0) (Heap.get?_push_size _ rfl) rfl ?_ (Nat.zero_le _) (by show (#[] ++ vs.toArray).size ≤ sizeLine + 1; simp only [Array.size_append, List.size_toArray, List.length_nil]; omega))
  refine wpAny_pure ?_
  show wpAny (model prog w) A (do
      let o ← load s.heap.objs.size
      match o.data with
      | .seq xs _ => pure xs.toList
      | _ => unsupported "internal:collect") Q E { s with heap := (s.heap.push (seqObj "list" #[] 0)).update s.heap.objs.size (Obj.mapSeq (· ++ vs.toArray)) }
  refine wpAny_bind (wpAny_load (get?_update_seq (Heap.get?_push_size _ rfl) _) ?_)
  show wpAny _ _ (pure ((#[] : Array Value) ++ vs.toArray).toList) Q E _
  rw [show ((#[] : Array Value) ++ vs.toArray).toList = vs by simp]
  exact wpAny_pure h
theorem lk_sorted_tuple {l : Addr} {vs : List Value} {ss : List Str} {Q : Value → Shared → Prop} (hl : s.heap.IsTuple l vs.toArray) (hS : StrsAre vs ss) (h64 : vs.length < 64)
    (h : ∀ (out : Array Value) (ss' : List Str), StrsAre out.toList ss' → ss'.Perm ss → sortedS ss' = true → Q (.ref (s.heap.objs.size + 1)) { s with heap := sortedAll s.heap vs out }) :
    wpAny (model prog w) A (call (.builtin "sorted") [.ref l]) Q E s := by
  refine Calls.call_function_entry kind_sorted plain_sorted entry_sorted (args_sorted1 _) ?_
  unfold Builtin.«sorted»
  refine wpAny_bind (m := checkCount "sorted" 1 1 _) (wpAny_pure ?_)
  refine wpAny_bind (lk_collect_tuple hl ?_ (by rw [sizeLine_eq]; omega))
  refine wpAny_bind (wpAny_newList ?_)
  have hsz : ((s.heap.push (seqObj "list" #[] 0)).update s.heap.objs.size (Obj.mapSeq (· ++ vs.toArray))).objs.size = s.heap.objs.size + 1 := by rw [Heap.size_update, size_push']
  have hoL : (((s.heap.push (seqObj "list" #[] 0)).update s.heap.objs.size (Obj.mapSeq (· ++ vs.toArray))).push (seqObj "list" vs.toArray 0)).get? (s.heap.objs.size + 1) = some (seqObj "list" vs.toArray 0) := by
    rw [← hsz]; exact Heap.get?_push_size _ rfl
  show wpAny _ _ _ _ _ { s with heap := ((s.heap.push (seqObj "list" #[] 0)).update s.heap.objs.size (Obj.mapSeq (· ++ vs.toArray))).push (seqObj "list" vs.toArray 0) }
  rw [hsz]
  refine wpAny_bind (wpAny_holding (wpAny_call_entry slot_list_sort ⟨_, hoL, rfl⟩ entry_list_sort (list_sort_treeK strKind_oneLt hoL hS.keysOf (fun v₁ v₂ rest e => keyKind_strs (by rw [← e]; exact hS)) h64 fun st' a1 a2 => ⟨_, rfl, ?_⟩) (args_list_sort _)))
  obtain ⟨ss', h1, h2, h3⟩ := sorted_out_str hS a1 a2
  exact wpAny_pure ⟨_, rfl, h _ ss' h1 h2 h3⟩
end
/-- sorted(xs), texts, a list or a tuple -/
def rSortedA (K : PySem.W.Frag) : List V → Hp → VK → Prop := fun vs H Q => ∃ (a : Addr) (xs : List Str), vs = [V.ref a] ∧ (SqL K H a (xs.map V.str) ∨ SqT K H a (xs.map V.str)) ∧ xs.length < 64 ∧ ∀ (ys : List Str) (p : Addr), ys.Perm xs → sortedS ys = true → H p = none → Q (.ref p) (upd H p (.lst (ys.map V.str)))
theorem cr_sortedA {X : Cx} : CallR X (.builtin "sorted") (rSortedA X.K) := by
  intro pins s σ H vs us Q I r h
  obtain ⟨a, xs, rfl, hs, h64, q⟩ := h
  rw [Vals.ref1 r]
  have fin : ∀ (its : List Value) (out : Array Value) (ys : List Str), StrsAre out.toList ys → ys.Perm xs → sortedS ys = true → EP X pins σ Q (.ref (s.heap.objs.size + 1)) { s with heap := sortedAll s.heap its out } := fun its out ys h1 h2 h3 => by
    obtain ⟨ep, he'⟩ := PyProof.Rows.sortedAll_at s.heap its out
    have hlen : (ys.map V.str).length ≤ sizeLine := by rw [List.length_map, h2.length_eq]; exact small64 h64
    exact ⟨.ref _, upd H (s.heap.objs.size + 1) (.lst (ys.map V.str)), I.laid (t' := s.toks) (fun _ _ => PyProof.Rows.sortedAll_old) (Nat.le_succ _) ⟨hlen, out.toList, ep, vals_of_strs h1, he'⟩, rfl, q ys _ h2 h3 (I.hok.fresh (Nat.le_succ _))⟩
  rcases hs with hs | hs
  · obtain ⟨its, rv, hl, _⟩ := I.list hs
    have hlen0 := rv.length
    rw [List.length_map] at hlen0
    exact PyProof.Rows.sorted_strs hl.isList rv.strs (by rw [← hlen0]; exact h64) fun out ys h1 h2 h3 => fin its out ys h1 h2 h3
  · obtain ⟨its, rv, hl, _⟩ := I.tuple hs
    have hlen0 := rv.length
    rw [List.length_map] at hlen0
    exact lk_sorted_tuple hl rv.strs (by rw [← hlen0]; exact h64) fun out ys h1 h2 h3 => fin its out ys h1 h2 h3
section
variable {K : PySem.W.Frag} {ρ : Ro} {te ta tb : TE} {d : PyData} {ds : List PyData}
theorem e_sortedA {xs : List Str} (h : Ev K te ρ d) (hd : itemsD d = some (xs.map PyData.str)) (hz : xs.length < 64) : EvR (tCB (rSortedA K) (tCons te tNil)) ρ (fun F v => ∃ ys : List Str, ys.Perm xs ∧ sortedS ys = true ∧ Dat K F (.list (ys.map PyData.str)) v) :=
  e_cb1 h fun F H v s r Q q => by
    have fin : ∀ (ys : List Str) (p : Addr), ys.Perm xs → sortedS ys = true → H p = none → Q (.ref p) (upd H p (.lst (ys.map V.str))) := fun ys p h1 h2 h3 =>
      q (.ref p) (upd F p (.lst (ys.map V.str))) _ (Le.new s h3) ⟨ys, h1, h2, .lst (SqL.of upd_same) (DatA.ofStrs ys)⟩
    cases r with
    | lst hs ha => cases hd; rw [ha.strs] at hs; exact ⟨_, xs, rfl, .inl (sql_sub s hs), hz, fin⟩
    | tup hs ha => cases hd; rw [ha.strs] at hs; exact ⟨_, xs, rfl, .inr (sqt_sub s hs), hz, fin⟩
    | _ => cases hd
/-- some list of these texts -/
theorem e_ex {α : Type} {P : α → Prop} {D : α → PyData} {R0 : Hp → V → Prop} (h : EvR te ρ R0) (i : ∀ F v, R0 F v → ∃ x, P x ∧ Dat K F (D x) v) : EvR te ρ (fun F v => ∃ d, (∃ x, P x ∧ d = D x) ∧ Dat K F d v) := h.imp fun F v r => by
  obtain ⟨x, p, dx⟩ := i F v r
  exact ⟨_, ⟨x, p, rfl⟩, dx⟩
theorem e_all {bs : List Bool} (h : Ev K te ρ (.list (bs.map PyData.bool))) : Ev K (tCB (rAll K) (tCons te tNil)) ρ (.bool (bs.all id)) :=
  e_cb1 h fun F H v s r Q q => by
    cases r with
    | lst hs ha =>
      have e := ha.bools
      subst e
      exact ⟨_, bs, rfl, sql_sub s hs, q _ F H (Fr.refl s) (.bl _)⟩
abbrev rTupOf (K : PySem.W.Frag) : List V → Hp → VK → Prop := fun xs H Q => ∃ p ys, xs = [.ref p] ∧ ((SqL K H p ys ∧ ∀ l, H l = none → Q (.ref l) (upd H l (.tup ys))) ∨ (SqT K H p ys ∧ Q (.ref p) H))
/-- tuple(e) -/
theorem e_tupOf (h : Ev K te ρ d) (hd : itemsD d = some ds) : Ev K (tCB (rTupOf K) (tCons te tNil)) ρ (.tuple ds) :=
  e_cb1 h fun F H v s r Q q => by
    cases r with
    | lst hs ha => cases hd; exact ⟨_, _, rfl, .inl ⟨sql_sub s hs, fun l hl => q (.ref l) (upd F l _) _ (Le.new s hl) (.tup (SqT.of upd_same) (ha.mono (Sub.new (s.none hl))))⟩⟩
    | tup hs ha => cases hd; exact ⟨_, _, rfl, .inr ⟨sqt_sub s hs, q _ F H (Fr.refl s) (.tup hs ha)⟩⟩
    | _ => cases hd
abbrev rLstOf (K : PySem.W.Frag) : List V → Hp → VK → Prop := fun xs H Q => ∃ p ys, xs = [.ref p] ∧ (SqL K H p ys ∨ SqT K H p ys) ∧ ∀ l, H l = none → Q (.ref l) (upd H l (.lst ys))
/-- list(e) -/
theorem e_lstOf (h : Ev K te ρ d) (hd : itemsD d = some ds) : Ev K (tCB (rLstOf K) (tCons te tNil)) ρ (.list ds) :=
  e_cb1 h fun F H v s r Q q => by
    cases r with
    | lst hs ha => cases hd; exact ⟨_, _, rfl, .inl (sql_sub s hs), fun l hl => q (.ref l) (upd F l _) _ (Le.new s hl) (.lst (SqL.of upd_same) (ha.mono (Sub.new (s.none hl))))⟩
    | tup hs ha => cases hd; exact ⟨_, _, rfl, .inr (sqt_sub s hs), fun l hl => q (.ref l) (upd F l _) _ (Le.new s hl) (.lst (SqL.of upd_same) (ha.mono (Sub.new (s.none hl))))⟩
    | _ => cases hd
/-- len of a list or a tuple -/
theorem e_lenA (h : Ev K te ρ d) (hd : itemsD d = some ds) : Ev K (tCB (fun xs H Q => ∃ p ys, xs = [.ref p] ∧ (SqL K H p ys ∨ SqT K H p ys) ∧ Q (.int ys.length) H) (tCons te tNil)) ρ (.int ds.length) :=
  e_cb1 h fun F H v s r Q q => by
    cases r with
    | lst hs ha => cases hd; exact ⟨_, _, rfl, .inl (sql_sub s hs), by rw [← ha.length]; exact q _ F H (Fr.refl s) (.int _)⟩
    | tup hs ha => cases hd; exact ⟨_, _, rfl, .inr (sqt_sub s hs), by rw [← ha.length]; exact q _ F H (Fr.refl s) (.int _)⟩
    | _ => cases hd
/-- x in xs, a list or a tuple -/
theorem e_inA {neg : Bool} (ha : Ev K ta ρ d) {e : PyData} (hb : Ev K tb ρ e) (he : itemsD e = some ds) (f : flatD d = true) (fs : ds.all flatD = true) : Ev K (tOp (rIn K neg) ta tb) ρ (.bool (if neg then !inD d ds else inD d ds)) := by
  cases e with
  | list es => cases he; exact e_in ha hb f fs
  | tuple es => cases he; exact e_inT ha hb f fs
  | _ => cases he
theorem b_opB {r : R2} {b : Bool} (h : Ev K (tOp r ta tb) ρ (.bool b)) : EvB (tTest (tOp r ta tb)) ρ b := b_test h
end
end LK

set_option Elab.async false
set_option linter.all false
set_option maxRecDepth 100000
set_option maxHeartbeats 2000000
/-! LKK: rules with the written part K told apart (within a comprehension's block the reading must not name the block). -/
namespace LK
open PySem PySem.Spec PyProof.Rows L2
section
variable {X : Cx} {K : PySem.W.Frag}
theorem kk_in_seq (h : X.K = K) : OpR X (compareOp .In) (rIn K false) := by subst h; exact op_in_seq
theorem kk_notIn_seq (h : X.K = K) : OpR X (compareOp .NotIn) (rIn K true) := by subst h; exact op_notIn_seq
theorem kk_eqD (h : X.K = K) (hu : X.A.units + 64 < cLine) : OpR X (compareOp .Eq) (rEqD K) := by subst h; exact op_eqD hu
theorem kk_neD (h : X.K = K) (hu : X.A.units + 64 < cLine) : OpR X (compareOp .NotEq) (rNeD K) := by subst h; exact op_neD hu
theorem kk_catL (h : X.K = K) : OpR X (binaryOp .Add) (rCatL K) := by subst h; exact op_catL
theorem kk_catA (h : X.K = K) : OpR X (binaryOp .Add) (rCatA K) := by subst h; exact op_catA
theorem kk_ixL (h : X.K = K) : IxR X (rIxL K) := by subst h; exact ix_list
theorem kk_ixT (h : X.K = K) : IxR X (rIxT K) := by subst h; exact ix_tup
theorem kk_slL (h : X.K = K) : SlR X (rSlL K) := by subst h; exact sl_list
theorem kk_slT (h : X.K = K) : SlR X (rSlA K) := by subst h; exact sl_tupA
theorem kk_isi (h : X.K = K) : CallR X (.builtin "isinstance") (rIsi K) := by subst h; exact call_isi
theorem kk_isiT (h : X.K = K) : CallR X (.builtin "isinstance") (rIsiT K) := by subst h; exact call_isiT
abbrev rLenA (K : PySem.W.Frag) : List V → Hp → VK → Prop := fun xs H Q => ∃ p ys, xs = [.ref p] ∧ (SqL K H p ys ∨ SqT K H p ys) ∧ Q (.int ys.length) H
theorem kk_len (h : X.K = K) : CallR X (.builtin "len") (rLenA K) := by subst h; exact call_len_seq
theorem kk_all (h : X.K = K) (hc : X.calm = true) : CallR X (.builtin "all") (rAll K) := by subst h; exact cr_all hc
theorem kk_sorted (h : X.K = K) : CallR X (.builtin "sorted") (rSortedA K) := by subst h; exact cr_sortedA
theorem kk_tupOf (h : X.K = K) : CallR X (.type "tuple") (rTupOf K) := by subst h; exact call_tuple_of
theorem kk_lstOf (h : X.K = K) : CallR X (.type "list") (rLstOf K) := by subst h; exact call_list_of
theorem kk_pi_list {tg l : Expr} {tl : TE} (h : X.K = K) (hl : PE X l tl) : PI X tg l (iList K tl) := by subst h; exact pi_list hl
theorem kk_pi_tup {tg l : Expr} {tl : TE} (h : X.K = K) (hl : PE X l tl) : PI X tg l (iTup K tl) := by subst h; exact pi_tup hl
theorem kk_pi_seq {tg l : Expr} {tl : TE} (h : X.K = K) (hl : PE X l tl) : PI X tg l (iSeqA K tl) := by subst h; exact pi_seq hl
theorem kk_pi_enum {e : Expr} {ta : TA} {p pos tpos : Pos} {elts : List Expr} {kk : Nat} (h : X.K = K) (hg : Gl X "enumerate") (hm : X.mg "enumerate" = none) (ha : PA X [e] ta) (hs : starEach [e] X.env = [(false, eval e X.env)] := by rfl) :
    PI X (.Tuple elts kk tpos) (.Call (.Name "enumerate" p) [e] [] pos) (iEnumA K ta) := by subst h; exact pi_enumA hg hm ha hs
theorem kk_lenSet {a : Expr} {ta : TE} {p p2 q pos : Pos} (h : X.K = K) (hc : X.calm = true) (hg : Gl X "len") (hm : X.mg "len" = none) (hg2 : Gl X "set") (hm2 : X.mg "set" = none) (ha : PE X a ta)
    (na : starEach [a] X.env = (false, eval a X.env) :: starEach [] X.env := by rfl) : PE X (.Call (.Name "len" p) [.Call (.Name "set" p2) [a] [] q] [] pos) (tLenSetS K ta) := by subst h; exact pe_lenSet hc hg hm hg2 hm2 ha na
theorem kk_tup {es : List Expr} {k : Nat} {t : TGs} {n : Nat} {pos : Pos} (h : X.K = K) (hc : X.calm = true) (hp : PGs X es t)
    (hn : (assignEach es X.env).length = n := by rfl) (hst : (assignEach es X.env).findIdx? (·.1) = none := by rfl) : PG X (.Tuple es k pos) (gTup K n t) := by subst h; exact pg_tup hc hp hn hst
end
end LK

set_option Elab.async false
set_option linter.all false
set_option maxRecDepth 100000
set_option maxHeartbeats 2000000
/-! LKL: what comprehensions of any number of clauses give (lists; dicts), own objects with described fields. -/
namespace LK
open PySem PySem.Spec PyProof.Rows L2
/-! ### loops of comprehensions -/
def ShS (S : Addr → Prop) (J : JP) (sh : SH) (ρ : Ro) (N : JP) : Prop := ∀ F H σ, Sub F H → J F H → SlOk F σ ρ → ∀ Nx : Hp → Prop, (∀ F2 H2, Fr S F H F2 H2 → N F2 H2 → Nx H2) → sh σ H Nx
section
variable {K : PySem.W.Frag} {S : Addr → Prop} {r : CR} {inner : SH} {ρ : Ro} {ds : List PyData} {ns : List Nat} {up : PyData → Ro → Ro}
theorem sh_loop {F0 : Hp} {T : It} (I : Nat → JP) (cl : ∀ i, Cl (I i)) (y : Yl K F0 T ds) (g : PyData → Bool) (hg : ∀ d, GtD K r.g d ns (up d)) (hv : ∀ i ∈ ns, i ∈ r.vs) (ht : ∀ d ∈ ds, EvB r.tt (up d (wipeR ρ r.vs)) (g d))
    (h0 : ∀ i d, ds[i]? = some d → g d = false → ∀ F H, I i F H → I (i + 1) F H) (h1 : ∀ i d, ds[i]? = some d → g d = true → ShS S (I i) inner (up d (wipeR ρ r.vs)) (I (i + 1))) :
    ∀ F H σ, Sub F0 F → Sub F H → I 0 F H → SlOk F σ ρ → ∀ Nx : Hp → Prop, (∀ F2 H2, Fr S F H F2 H2 → I ds.length F2 H2 → Nx H2) → tLoop T r inner σ H Nx := fun F H σ s0 s j sl Nx q => by
  refine ⟨fun i m H' => m = ds.length - i ∧ i ≤ ds.length ∧ ∃ F', Fr S F H F' H' ∧ I i F' H', ⟨ds.length, by simp, Nat.zero_le _, F, Fr.refl s, j⟩, ?_⟩
  rintro i m H' ⟨rfl, hi, F', l', hI⟩
  by_cases hlt : i < ds.length
  · have hd : ds[i]? = some ds[i] := List.getElem?_eq_getElem hlt
    refine .inr ⟨y.go F' H' (s0.trans l'.f) l'.s i _ hd, fun H2 => i + 1 ≤ ds.length ∧ ∃ F2, Fr S F H F2 H2 ∧ I (i + 1) F2 H2, fun H2 ⟨a, b⟩ => ⟨ds.length - (i + 1), by omega, rfl, a, b⟩, fun x H2 yl => ?_⟩
    obtain ⟨F2, l2, dx⟩ := y.yld F' H' (s0.trans l'.f) l'.s i _ hd x H2 yl
    refine hg _ F2 x _ (wipeR ρ r.vs) H2 l2.s dx ((sl.wipe r.vs).mono (l'.f.trans l2.f)) _ fun σ3 sl3 o3 => ⟨(wipe_out o3 hv).trans (wipe_wipe σ r.vs), ?_⟩
    refine ht _ (List.mem_of_getElem? hd) F2 H2 σ3 l2.s sl3 _ fun F3 H3 l3 => ?_
    have j3 := cl i F' H' F3 H3 (l2.trans l3) hI
    have l03 : Fr S F H F3 H3 := (l'.trans l2.up).trans l3.up
    cases e : g ds[i] with
    | false =>
      rw [if_neg Bool.false_ne_true]
      exact ⟨hlt, F3, l03, h0 i _ hd e F3 H3 j3⟩
    | true =>
      rw [if_pos rfl]
      exact h1 i _ hd e F3 H3 σ3 l3.s j3 (sl3.mono l3.f) _ fun F4 H4 l4 n4 => ⟨hlt, F4, l03.trans l4, n4⟩
  · have e : i = ds.length := by omega
    subst e
    exact .inl ⟨y.stop F' H' (s0.trans l'.f) l'.s, q F' H' l' hI⟩
end
/-! ### lists -/
/-- the new list at D holds acc, not frozen -/
def LsAt (K : PySem.W.Frag) (D : Addr) (acc : List PyData) : JP := fun F H => ∃ xs, F D = none ∧ H D = some (.lst xs) ∧ DatA K F acc xs
theorem cl_lsAt {K : PySem.W.Frag} {D : Addr} {acc : List PyData} : Cl (LsAt K D acc) := fun F H F2 H2 l ⟨xs, a, b, c⟩ => ⟨xs, l.n D _ b a, l.h D _ b (fun z => z), c.mono l.f⟩
/-- it appends out -/
def ShL (K : PySem.W.Frag) (sh : Addr → SH) (ρ : Ro) (out : List PyData) : Prop := ∀ D acc, (acc ++ out).length ≤ sizeLine → ShS (· = D) (LsAt K D acc) (sh D) ρ (LsAt K D (acc ++ out))
section
variable {K : PySem.W.Frag} {te : TE} {ρ : Ro} {r : CR} {cs : List CR} {leaf : Addr → SH} {ds : List PyData} {ns : List Nat} {up : PyData → Ro → Ro} {e : PyData}
theorem shl_leaf (h : Ev K te ρ e) : ShL K (leafL te) ρ [e] := fun D acc hz F H σ s ⟨xs, a, b, c⟩ sl Nx q =>
  h F H σ s sl _ fun v F1 H1 l1 r1 => by
    have b1 := l1.h D _ b (fun z => z)
    have a1 := l1.n D _ b a
    have c1 := c.mono l1.f
    rw [List.length_append, List.length_singleton] at hz
    exact ⟨xs, b1, by rw [← c1.length]; omega, q F1 _ (l1.up.trans (Fr.mut l1.s a1 rfl)) ⟨xs ++ [v], a1, upd_same, c1.app (.cons r1 .nil)⟩⟩
theorem shl_loop {F0 : Hp} {T : It} {D : Addr} {acc : List PyData} (f : PyData → List PyData) (g : PyData → Bool) (y : Yl K F0 T ds) (hg : ∀ d, GtD K r.g d ns (up d)) (hv : ∀ i ∈ ns, i ∈ r.vs) (ht : ∀ d ∈ ds, EvB r.tt (up d (wipeR ρ r.vs)) (g d))
    (h0 : ∀ d ∈ ds, g d = false → f d = []) (h1 : ∀ d ∈ ds, g d = true → ShL K leaf (up d (wipeR ρ r.vs)) (f d)) (hz : (acc ++ ds.flatMap f).length ≤ sizeLine) :
    ∀ F H σ, Sub F0 F → Sub F H → LsAt K D acc F H → SlOk F σ ρ → ∀ Nx : Hp → Prop, (∀ F2 H2, Fr (· = D) F H F2 H2 → LsAt K D (acc ++ ds.flatMap f) F2 H2 → Nx H2) → tLoop T r (leaf D) σ H Nx := by
  have st : ∀ i d, ds[i]? = some d → (ds.take (i + 1)).flatMap f = (ds.take i).flatMap f ++ f d := fun i d hd => by
    rw [List.take_succ, hd, List.flatMap_append]
    simp
  have le : ∀ i, ((ds.take i).flatMap f).length ≤ (ds.flatMap f).length := fun i => by
    conv => rhs; rw [← List.take_append_drop i ds, List.flatMap_append, List.length_append]
    omega
  have key := sh_loop (K := K) (S := (· = D)) (r := r) (inner := leaf D) (ρ := ρ) (F0 := F0) (T := T) (fun i => LsAt K D (acc ++ (ds.take i).flatMap f)) (fun i => cl_lsAt) y g hg hv ht (fun i d hd e F H j => by
      rw [st i d hd, h0 d (List.mem_of_getElem? hd) e, List.append_nil]
      exact j) (fun i d hd e => by
      have z := h1 d (List.mem_of_getElem? hd) e D (acc ++ (ds.take i).flatMap f) (by
        rw [List.append_assoc, ← st i d hd, List.length_append]
        have := le (i + 1)
        rw [List.length_append] at hz
        omega)
      rw [List.append_assoc, ← st i d hd] at z
      exact z)
  intro F H σ s0 s j sl Nx q
  refine key F H σ s0 s ?_ sl Nx fun F2 H2 l n => q F2 H2 l ?_
  · rw [List.take_zero, List.flatMap_nil, List.append_nil]; exact j
  · rw [List.take_length] at n; exact n
/-- a later clause -/
theorem shl_cls (f : PyData → List PyData) (g : PyData → Bool) (hs : Src K r.wi ρ ds) (hg : ∀ d, GtD K r.g d ns (up d)) (hv : ∀ i ∈ ns, i ∈ r.vs) (ht : ∀ d ∈ ds, EvB r.tt (up d (wipeR ρ r.vs)) (g d))
    (h0 : ∀ d ∈ ds, g d = false → f d = []) (h1 : ∀ d ∈ ds, g d = true → ShL K (fun D => tCls cs (leaf D)) (up d (wipeR ρ r.vs)) (f d)) : ShL K (fun D => tCls (r :: cs) (leaf D)) ρ (ds.flatMap f) := fun D acc hz F H σ s j sl Nx q =>
  hs F H σ s sl _ fun T F1 H1 l1 y => shl_loop (leaf := fun D => tCls cs (leaf D)) f g y hg hv ht h0 h1 hz F1 H1 σ (Sub.refl F1) l1.s (cl_lsAt F H F1 H1 l1 j) (sl.mono l1.f) Nx fun F2 H2 l2 n => q F2 H2 (l1.up.trans l2) n
/-- no test -/
theorem shl_clsY (f : PyData → List PyData) (hs : Src K r.wi ρ ds) (hg : ∀ d, GtD K r.g d ns (up d)) (hv : ∀ i ∈ ns, i ∈ r.vs) (hy : r.tt = tYes) (h1 : ∀ d ∈ ds, ShL K (fun D => tCls cs (leaf D)) (up d (wipeR ρ r.vs)) (f d)) : ShL K (fun D => tCls (r :: cs) (leaf D)) ρ (ds.flatMap f) :=
  shl_cls f (fun _ => true) hs hg hv (fun _ _ => by rw [hy]; exact b_yes) (fun _ _ z => by cases z) fun d hd _ => h1 d hd
/-- [e for .. for ..] -/
theorem e_lcN (f : PyData → List PyData) (g : PyData → Bool) (hs : Src K r.wi ρ ds) (hg : ∀ d, GtD K r.g d ns (up d)) (hv : ∀ i ∈ ns, i ∈ r.vs) (ht : ∀ d ∈ ds, EvB r.tt (up d (wipeR ρ r.vs)) (g d))
    (h0 : ∀ d ∈ ds, g d = false → f d = []) (h1 : ∀ d ∈ ds, g d = true → ShL K (fun D => tCls cs (leaf D)) (up d (wipeR ρ r.vs)) (f d)) (hz : (ds.flatMap f).length ≤ sizeLine) :
    Ev K (tCmp (fun _ => .lst []) r cs leaf) ρ (.list (ds.flatMap f)) := fun F H σ s sl Q q =>
  hs F H σ s sl _ fun T F1 H1 l1 y D hD => by
    have nF1 : F1 D = none := l1.s.none hD
    refine shl_loop (leaf := fun D => tCls cs (leaf D)) (acc := []) f g y hg hv ht h0 h1 (by rw [List.nil_append]; exact hz) F1 (upd H1 D (.lst [])) σ (Sub.refl F1) (l1.s.mut nF1) ⟨[], nF1, upd_same, .nil⟩ (sl.mono l1.f) _ fun F2 H2 l2 ⟨xs, a, b, c⟩ => ?_
    rw [List.nil_append] at c
    have nH : H D = none := by
      cases e : H D with
      | none => rfl
      | some o =>
        have := l1.sub D o e
        rw [hD] at this; cases this
    refine q (.ref D) (upd F2 D (.lst xs)) H2 ⟨?_, Le.freeze l2.s b, fun b' o e _ => ?_, fun b' o e n => ?_, fun b' o e => ?_, fun z => (l2.t (l1.t z)).upd (by intro _ z; cases z)⟩ (.lst (SqL.of upd_same) (c.mono (Sub.new a)))
    · exact (l1.f.trans l2.f).trans (Sub.new a)
    · have hne : b' ≠ D := ne_of_none e nH
      exact l2.h b' o (by rw [upd_ne hne]; exact l1.sub b' o e) hne
    · have hne : b' ≠ D := ne_of_none e nH
      rw [upd_ne hne]
      exact l2.n b' o (by rw [upd_ne hne]; exact l1.sub b' o e) (l1.n b' o e n)
    · have hne : b' ≠ D := ne_of_none e nH
      exact l2.g b' o (by rw [upd_ne hne]; exact l1.sub b' o e)
theorem e_lcNY (f : PyData → List PyData) (hs : Src K r.wi ρ ds) (hg : ∀ d, GtD K r.g d ns (up d)) (hv : ∀ i ∈ ns, i ∈ r.vs) (hy : r.tt = tYes) (h1 : ∀ d ∈ ds, ShL K (fun D => tCls cs (leaf D)) (up d (wipeR ρ r.vs)) (f d)) (hz : (ds.flatMap f).length ≤ sizeLine) :
    Ev K (tCmp (fun _ => .lst []) r cs leaf) ρ (.list (ds.flatMap f)) :=
  e_lcN f (fun _ => true) hs hg hv (fun _ _ => by rw [hy]; exact b_yes) (fun _ _ z => by cases z) (fun d hd _ => h1 d hd) hz
end
/-- the walked is one of some lists -/
def SrcX (K : PySem.W.Frag) (wi : TI) (ρ : Ro) {β : Type} (Py : β → Prop) (Dd : β → List PyData) : Prop := ∀ F H σ, Sub F H → SlOk F σ ρ → ∀ R : It → Hp → Prop, (∀ y T F2 H2, Py y → Le F H F2 H2 → Yl K F2 T (Dd y) → R T H2) → wi σ H R
theorem SrcX.of {K : PySem.W.Frag} {wi : TI} {ρ : Ro} {ds : List PyData} (h : Src K wi ρ ds) : SrcX K wi ρ (β := Unit) (fun _ => True) (fun _ => ds) := fun F H σ s sl R q => h F H σ s sl R fun T F2 H2 l y => q () T F2 H2 trivial l y
theorem srcX_list {K : PySem.W.Frag} {te : TE} {ρ : Ro} {β : Type} {Py : β → Prop} {Dd : β → List PyData} (h : EvR te ρ (fun F v => ∃ y, Py y ∧ Dat K F (.list (Dd y)) v)) : SrcX K (iList K te) ρ Py Dd := fun F H σ s sl R q => h F H σ s sl _ fun v F1 H1 l1 ⟨y, py, r1⟩ => by
  cases r1 with
  | @lst a xs _ hs ha =>
    refine ⟨a, rfl, ⟨xs, sql_sub l1.s hs⟩, q y _ F1 H1 py l1 ⟨fun F2 H2 e1 e2 i d hd => ?_, fun F2 H2 e1 e2 i d hd x H' y => ?_, fun F2 H2 e1 e2 => ?_⟩⟩
    · obtain ⟨v, hv, _⟩ := ha.getD hd
      exact ⟨xs, v, sql_sub (e1.trans e2) hs, hv⟩
    · obtain ⟨v, hv, dv⟩ := ha.getD hd
      obtain ⟨rfl, hx⟩ := y
      have e := hx xs (sql_sub (e1.trans e2) hs)
      rw [hv] at e
      cases e
      exact ⟨F2, Fr.refl e2, dv.mono e1⟩
    · exact ⟨xs, sql_sub (e1.trans e2) hs, by rw [ha.length]; exact Nat.le_refl _⟩
/-! ### dicts, one clause -/
section
variable {K : PySem.W.Frag} {P : Program} {w : World} {tk tv : TE} {ρ : Ro} {r : CR} {ds : List PyData} {ns : List Nat} {up : PyData → Ro → Ro}
/-- the new dict at D, frozen at the end -/
theorem e_dcX {β : Type} {Py : β → Prop} {Dd : β → List PyData} {o0 : Addr → HO} {leaf : Addr → SH} (I : Addr → Nat → JP) (cl : ∀ D i, Cl (I D i)) (fz : ∀ D i F H, I D i F H → F D = none) (h0 : ∀ D F H, F D = none → H D = some (o0 D) → I D 0 F H) (hs : SrcX K r.wi ρ Py Dd) (hg : ∀ d, GtD K r.g d ns (up d)) (hv : ∀ i ∈ ns, i ∈ r.vs) (hy : r.tt = tYes)
    (h1 : ∀ y, Py y → ∀ D i d, (Dd y)[i]? = some d → ShS (· = D) (I D i) (leaf D) (up d (wipeR ρ r.vs)) (I D (i + 1))) (R : Hp → V → Prop)
    (hR : ∀ y D F H, I D (Dd y).length F H → Sub F H → ∃ o, H D = some o ∧ (∀ ps, o ≠ .tbl ps) ∧ R (upd F D o) (.ref D)) : EvR (tCmp o0 r [] leaf) ρ R := fun F H σ s sl Q q =>
  hs F H σ s sl _ fun yy T F1 H1 py l1 y D hD => by
    have nF1 : F1 D = none := l1.s.none hD
    refine sh_loop (inner := leaf D) (S := (· = D)) (I D) (cl D) y (fun _ => true) hg hv (fun _ _ => by rw [hy]; exact b_yes) (fun _ _ _ z => by cases z) (fun i d hd _ => h1 yy py D i d hd) F1 (upd H1 D (o0 D)) σ (Sub.refl F1) (l1.s.mut nF1) (h0 D F1 _ nF1 upd_same) (sl.mono l1.f) _ fun F2 H2 l2 j2 => ?_
    have nH : H D = none := by
      cases e : H D with
      | none => rfl
      | some o =>
        have := l1.sub D o e
        rw [hD] at this; cases this
    have a := fz D _ F2 H2 j2
    obtain ⟨o, b, ho, hr⟩ := hR yy D F2 H2 j2 l2.s
    refine q (.ref D) (upd F2 D o) H2 ⟨?_, Le.freeze l2.s b, fun b' o e _ => ?_, fun b' o e n => ?_, fun b' o e => ?_, fun z => (l2.t (l1.t z)).upd ho⟩ hr
    · exact (l1.f.trans l2.f).trans (Sub.new a)
    · have hne : b' ≠ D := ne_of_none e nH
      exact l2.h b' o (by rw [upd_ne hne]; exact l1.sub b' o e) hne
    · have hne : b' ≠ D := ne_of_none e nH
      rw [upd_ne hne]
      exact l2.n b' o (by rw [upd_ne hne]; exact l1.sub b' o e) (l1.n b' o e n)
    · have hne : b' ≠ D := ne_of_none e nH
      exact l2.g b' o (by rw [upd_ne hne]; exact l1.sub b' o e)
def DtAt (K : PySem.W.Frag) (P : Program) (w : World) (D : Addr) (i : Nat) : JP := fun F H => F D = none ∧ ∃ ks : List (NestedKey × Addr), H D = some (dctO P w D ks) ∧ (∀ p ∈ ks, NK K F p.1 (.ref p.2) ∧ p.1.depth ≤ 8) ∧ ks.length ≤ i
end
mutual
theorem NK.mono {K : PySem.W.Frag} {F F' : Hp} (e : Sub F F') : ∀ {k : NestedKey} {v : V}, NK K F k v → NK K F' k v
  | _, _, .non => .non
  | _, _, .bl b => .bl b
  | _, _, .int i => .int i
  | _, _, .str x => .str x
  | _, _, .tup h a => .tup (sqt_sub e h) (NKA.mono e a)
theorem NKA.mono {K : PySem.W.Frag} {F F' : Hp} (e : Sub F F') : ∀ {ks : List NestedKey} {vs : List V}, NKA K F ks vs → NKA K F' ks vs
  | _, _, .nil => .nil
  | _, _, .cons h t => .cons (NK.mono e h) (NKA.mono e t)
end
theorem putN_len {ks : List (NestedKey × Addr)} {k : NestedKey} {b : Addr} : (putN ks k b).length ≤ ks.length + 1 := by
  unfold putN
  split <;> simp
theorem putN_mem {ks : List (NestedKey × Addr)} {k : NestedKey} {b : Addr} {p : NestedKey × Addr} (h : p ∈ putN ks k b) : p ∈ ks ∨ p = (k, b) := by
  unfold putN at h
  split at h
  · exact .inl h
  · rcases List.mem_append.mp h with h | h
    · exact .inl h
    · exact .inr (List.mem_singleton.mp h)
section
variable {K : PySem.W.Frag} {P : Program} {w : World} {tk tv : TE} {ρ : Ro} {r : CR} {ds : List PyData} {ns : List Nat} {up : PyData → Ro → Ro}
/-- {key: value for ..}, the keys tuples: some dict -/
theorem e_dcT {β : Type} {Py : β → Prop} {Dd : β → List PyData} {Rv : Hp → V → Prop} (kd : PyData → PyData) (hs : SrcX K r.wi ρ Py Dd) (hg : ∀ d, GtD K r.g d ns (up d)) (hv : ∀ i ∈ ns, i ∈ r.vs) (hy : r.tt = tYes) (hk : ∀ y, Py y → ∀ d ∈ Dd y, Ev K tk (up d (wipeR ρ r.vs)) (kd d)) (hkd : ∀ y, Py y → ∀ d ∈ Dd y, keyOk (kd d) = true ∧ (keyN (kd d)).depth ≤ 8 ∧ ∃ es, kd d = .tuple es)
    (hvv : ∀ y, Py y → ∀ d ∈ Dd y, EvR tv (up d (wipeR ρ r.vs)) Rv) (hz : ∀ y, Py y → (Dd y).length ≤ 100000) : EvR (tCmp (fun D => dctO P w D []) r [] (leafT K P w tk tv)) ρ (fun F v => ∃ D ks, v = .ref D ∧ F D = some (dctO P w D ks)) :=
  e_dcX (DtAt K P w) (fun D i F H F2 H2 l ⟨a, ks, b, c, e⟩ => ⟨l.n D _ b a, ks, l.h D _ b (fun z => z), fun p hp => ⟨(c p hp).1.mono l.f, (c p hp).2⟩, e⟩) (fun D i F H j => j.1) (fun D F H a b => ⟨a, [], b, by simp, Nat.le_refl _⟩) hs hg hv hy
    (fun yy py D i d hd F H σ s ⟨a, ks, b, c, e⟩ sl Nx q => by
      have hz := hz yy py
      have hm := List.mem_of_getElem? hd
      have hi := (List.getElem?_eq_some_iff.mp hd).1
      refine hk yy py d hm F H σ s sl _ fun y F1 H1 l1 r1 => hvv yy py d hm F1 H1 σ l1.s (sl.mono l1.f) _ fun _ F2 H2 l2 _ => ?_
      obtain ⟨k1, k2, es, k3⟩ := hkd yy py d hm
      have dy := r1.mono l2.f
      have ny : NK K F2 (keyN (kd d)) y := nk_of (Sub.refl F2) dy k1
      obtain ⟨a1, ea⟩ : ∃ a1, y = .ref a1 := by
        rw [k3] at dy
        cases dy with
        | tup _ _ => exact ⟨_, rfl⟩
      subst ea
      have l := l1.trans l2
      have b2 := l.h D _ b (fun z => z)
      have a2 := l.n D _ b a
      have c2 : ∀ p ∈ ks, NK K F2 p.1 (.ref p.2) ∧ p.1.depth ≤ 8 := fun p hp => ⟨(c p hp).1.mono l.f, (c p hp).2⟩
      refine ⟨a1, keyN (kd d), ks, rfl, ny.mono l2.s, k2, b2, fun p hp => ⟨(c2 p hp).1.mono l2.s, (c2 p hp).2⟩, by omega, q F2 _ (l.up.trans (Fr.mut l2.s a2 rfl)) ⟨a2, _, upd_same, fun p hp => ?_, Nat.le_trans putN_len (by omega)⟩⟩
      rcases putN_mem hp with h | h
      · exact c2 p h
      · rw [h]; exact ⟨ny, k2⟩) _ fun _ D F H ⟨a, ks, b, _⟩ _ => ⟨_, b, (fun _ z => nomatch z), D, ks, rfl, upd_same⟩
def leafD : PyData → Option Leaf
  | .none => some .none
  | .int i => some (.num i)
  | .str x => some (.text x)
  | _ => none
theorem leaf_of {F : Hp} {d : PyData} {v : V} {k : Leaf} (h : Dat K F d v) (e : leafD d = some k) : leafV v = some k := by
  cases h <;> first | exact e | cases e
theorem putL_len {ks : List Leaf} {k : Leaf} : (putL ks k).length ≤ ks.length + 1 := by
  unfold putL
  split <;> simp
/-- the keys None, ints or texts: some dict -/
theorem e_dcK {β : Type} {Py : β → Prop} {Dd : β → List PyData} {Rv Rk : Hp → V → Prop} (hs : SrcX K r.wi ρ Py Dd) (hg : ∀ d, GtD K r.g d ns (up d)) (hv : ∀ i ∈ ns, i ∈ r.vs) (hy : r.tt = tYes) (hk : ∀ y, Py y → ∀ d ∈ Dd y, EvR tk (up d (wipeR ρ r.vs)) Rk) (hkd : ∀ F v, Rk F v → ∃ k, leafV v = some k)
    (hvv : ∀ y, Py y → ∀ d ∈ Dd y, EvR tv (up d (wipeR ρ r.vs)) Rv) (hz : ∀ y, Py y → (Dd y).length ≤ 100000) : EvR (tCmp (fun D => dclO P w D []) r [] (leafK P w tk tv)) ρ (fun F v => ∃ D ks, v = .ref D ∧ F D = some (dclO P w D ks)) :=
  e_dcX (fun D i F H => F D = none ∧ ∃ ks : List Leaf, H D = some (dclO P w D ks) ∧ ks.length ≤ i) (fun D i F H F2 H2 l ⟨a, ks, b, c⟩ => ⟨l.n D _ b a, ks, l.h D _ b (fun z => z), c⟩) (fun D i F H j => j.1) (fun D F H a b => ⟨a, [], b, Nat.le_refl _⟩) hs hg hv hy
    (fun yy py D i d hd F H σ s ⟨a, ks, b, c⟩ sl Nx q => by
      have hz := hz yy py
      have hm := List.mem_of_getElem? hd
      have hi := (List.getElem?_eq_some_iff.mp hd).1
      refine hk yy py d hm F H σ s sl _ fun y F1 H1 l1 r1 => hvv yy py d hm F1 H1 σ l1.s (sl.mono l1.f) _ fun _ F2 H2 l2 _ => ?_
      obtain ⟨k, ek⟩ := hkd F1 y r1
      have l := l1.trans l2
      have b2 := l.h D _ b (fun z => z)
      have a2 := l.n D _ b a
      exact ⟨k, ks, ek, b2, by omega, q F2 _ (l.up.trans (Fr.mut l2.s a2 rfl)) ⟨a2, _, upd_same, Nat.le_trans putL_len (by omega)⟩⟩) _ fun _ D F H ⟨a, ks, b, _⟩ _ => ⟨_, b, (fun _ z => nomatch z), D, ks, rfl, upd_same⟩
/-- such a dict, frozen -/
def MP.dl (P : Program) (w : World) (ks : List Leaf) : MP := ⟨fun F v => ∃ D, v = .ref D ∧ F D = some (dclO P w D ks), fun e ⟨D, a, b⟩ => ⟨D, a, e _ _ b⟩⟩
theorem e_notInK {ty td : TE} {d : PyData} {k : Leaf} {ks : List Leaf} (hy : Ev K ty ρ d) (hd : EvR td ρ (MP.dl P w ks).R) (e : leafD d = some k) : Ev K (tNotInK P w ty td) ρ (.bool (!ks.contains k)) := fun F H σ s sl Q q =>
  hy F H σ s sl _ fun y F1 H1 l1 r1 => hd F1 H1 σ l1.s (sl.mono l1.f) _ fun x F2 H2 l2 ⟨D, ex, b⟩ => ⟨D, k, ks, ex, leaf_of r1 e, l2.s _ _ b, q _ F2 H2 (l1.trans l2) (.bl _)⟩
end
/-! ### own objects -/
/-- the attributes, each as described -/
inductive Flds (F : Hp) : List (Str × MP) → List (Str × V) → Prop
  | nil : Flds F [] []
  | cons {f : Str} {m : MP} {v : V} {ms : List (Str × MP)} {vs : List (Str × V)} : m.R F v → Flds F ms vs → Flds F ((f, m) :: ms) ((f, v) :: vs)
theorem Flds.mono {F F' : Hp} (e : Sub F F') : ∀ {ms : List (Str × MP)} {vs : List (Str × V)}, Flds F ms vs → Flds F' ms vs
  | _, _, .nil => .nil
  | _, _, .cons (m := m) h t => .cons (m.mono e h) (Flds.mono e t)
theorem Flds.length {F : Hp} : ∀ {ms : List (Str × MP)} {vs : List (Str × V)}, Flds F ms vs → vs.length = ms.length
  | _, _, .nil => rfl
  | _, _, .cons _ t => congrArg Nat.succ (Flds.length t)
theorem Flds.get {F : Hp} {f : Str} {m : MP} : ∀ {ms : List (Str × MP)} {vs : List (Str × V)}, Flds F ms vs → ms.lookup f = some m → ∃ v, vs.lookup f = some v ∧ m.R F v
  | _, _, .nil, e => by cases e
  | _, _, .cons (f := g) (v := v) h t, e => by
    rw [List.lookup_cons] at e ⊢
    cases q : f == g with
    | true => rw [q] at e; cases e; exact ⟨v, rfl, h⟩
    | false => rw [q] at e; exact Flds.get t e
theorem Flds.non {F : Hp} {f : Str} : ∀ {ms : List (Str × MP)} {vs : List (Str × V)}, Flds F ms vs → ms.lookup f = none → vs.lookup f = none
  | _, _, .nil, e => rfl
  | _, _, .cons (f := g) (v := v) h t, e => by
    rw [List.lookup_cons] at e ⊢
    cases q : f == g with
    | true => rw [q] at e; cases e
    | false => rw [q] at e; exact Flds.non t e
theorem Flds.put {F : Hp} {f : Str} {m : MP} {v : V} (r : m.R F v) : ∀ {ms : List (Str × MP)} {vs : List (Str × V)}, Flds F ms vs → ms.lookup f = none → Flds F (ms ++ [(f, m)]) (putF f v vs)
  | _, _, .nil, _ => .cons r .nil
  | _, _, .cons (f := g) (v := u) h t, e => by
    rw [List.lookup_cons] at e
    cases q : f == g with
    | true => rw [q] at e; cases e
    | false =>
      rw [q] at e
      have hn : ¬ f = g := by simpa using q
      have z := Flds.put r t e
      unfold putF
      first
        | (rw [if_neg hn]; exact .cons h z)
        | (rw [if_neg (fun w => hn w.symm)]; exact .cons h z)
/-- an instance of the class at C with these attributes, frozen -/
def MP.o (C : Addr) (ms : List (Str × MP)) : MP := ⟨fun F v => ∃ a dx vs, v = .ref a ∧ F a = some (.ins C dx vs) ∧ Flds F ms vs, fun e ⟨a, dx, vs, h1, h2, h3⟩ => ⟨a, dx, vs, h1, e _ _ h2, h3.mono e⟩⟩
/-- being made -/
def InsAt (C a dx : Addr) (ms : List (Str × MP)) : JP := fun F H => F a = none ∧ ∃ vs, H a = some (.ins C dx vs) ∧ Flds F ms vs
theorem cl_ins {C a dx : Addr} {ms : List (Str × MP)} : Cl (InsAt C a dx ms) := fun F H F2 H2 l ⟨h1, vs, h2, h3⟩ => ⟨l.n a _ h2 h1, vs, l.h a _ h2 (fun z => z), h3.mono l.f⟩
section
variable {K : PySem.W.Frag} {ρ : Ro} {te tv ta : TE} {t : TA} {C a dx : Addr} {ms : List (Str × MP)} {f : Str} {m : MP} {S : Addr → Prop} {u : TS} {Nx : Ro → JP} {R : V → JP} {E : XK}
theorem e_fld (h : EvR te ρ (MP.o C ms).R) (c : Cls K C) (n : NoAttr K C f) (l : ms.lookup f = some m := by rfl) : EvR (tFld K te f) ρ m.R := fun F H σ s sl Q q =>
  h F H σ s sl _ fun v F1 H1 l1 ⟨a, dx, vs, ev, ea, hf⟩ => by
    obtain ⟨u, hu, ru⟩ := hf.get l
    exact ⟨a, C, dx, vs, u, ev, l1.s _ _ ea, c, n, hu, q u F1 H1 l1 ru⟩
/-- the property's getter gives back the attribute f -/
theorem e_prop (h : EvR te ρ (MP.o C ms).R) (l : ms.lookup f = some m := by rfl) : EvR (tProp C (getSp C f) [] E te) ρ m.R := fun F H σ s sl Q q =>
  h F H σ s sl _ fun v F1 H1 l1 ⟨a, dx, vs, ev, ea, hf⟩ => by
    obtain ⟨u, hu, ru⟩ := hf.get l
    exact ⟨a, dx, vs, ev, l1.s _ _ ea, a, dx, vs, u, rfl, l1.s _ _ ea, hu, q u F1 H1 l1 ru⟩
theorem q_fld {i : Nat} (hi : ρ[i]? = some (some (MP.v (.ref a)))) (h : EvR tv ρ m.R) (c : Cls K C) (n : NoAttr K C f) (hS : S a) (k : St S (InsAt C a dx (ms ++ [(f, m)])) u ρ Nx R) (hn : ms.lookup f = none := by rfl) (hl : ms.length < 1000 := by simp) :
    St S (InsAt C a dx ms) (tSeq (sFld K (tVar i) tv f) u) ρ Nx R := fun F H σ s j sl D hr hnx =>
  h F H σ s sl _ fun v F1 H1 l1 r1 => by
    obtain ⟨h1, vs, h2, h3⟩ := cl_ins F H F1 H1 l1 j
    obtain ⟨x, ex, ea⟩ := sl.at_ i _ hi
    have ea : x = .ref a := ea
    subst ea
    refine ⟨.ref a, ex, a, C, dx, vs, rfl, h2, c, n, by rw [h3.length]; exact hl, ?_⟩
    have l2 : Fr S F H F1 (upd H1 a (.ins C dx (putF f v vs))) := l1.up.trans (Fr.mut l1.s h1 hS)
    exact k F1 _ σ l2.s ⟨h1, _, upd_same, Flds.put r1 h3 hn⟩ (sl.mono l1.f) D (fun v F2 H2 l r => hr v F2 H2 (l2.trans l) r) fun ρ' σ' F2 H2 l r => hnx ρ' σ' F2 H2 (l2.trans l) r
theorem s_fld {i : Nat} (hi : ρ[i]? = some (some (MP.v (.ref a)))) (h : EvR tv ρ m.R) (c : Cls K C) (n : NoAttr K C f) (hS : S a) (k : ∀ F H, InsAt C a dx (ms ++ [(f, m)]) F H → Nx ρ F H) (hn : ms.lookup f = none := by rfl) (hl : ms.length < 1000 := by simp) :
    St S (InsAt C a dx ms) (sFld K (tVar i) tv f) ρ Nx R := fun F H σ s j sl D hr hnx =>
  h F H σ s sl _ fun v F1 H1 l1 r1 => by
    obtain ⟨h1, vs, h2, h3⟩ := cl_ins F H F1 H1 l1 j
    obtain ⟨x, ex, ea⟩ := sl.at_ i _ hi
    have ea : x = .ref a := ea
    subst ea
    refine ⟨.ref a, ex, a, C, dx, vs, rfl, h2, c, n, by rw [h3.length]; exact hl, ?_⟩
    exact hnx ρ σ F1 _ (l1.up.trans (Fr.mut l1.s h1 hS)) (k F1 _ ⟨h1, _, upd_same, Flds.put r1 h3 hn⟩) (sl.mono l1.f)
/-- the promise of an __init__ that sets the attributes ms x of the new instance -/
abbrev spIn (C : Addr) {α : Type} (n : Nat) (pre : α → Hp → List V → Prop) (ms : α → List (Str × MP)) : Sp :=
  spS (α := α × Addr × Addr) n (fun x b => b = x.2.1) (fun x => InsAt C x.2.1 x.2.2 []) (fun x F vs => ∃ args, vs = .ref x.2.1 :: args ∧ pre x.1 F args) (fun x v F H => v = .non ∧ InsAt C x.2.1 x.2.2 (ms x.1) F H)
/-- C(..) -/
theorem e_make {α : Type} {n : Nat} {pre : α → Hp → List V → Prop} {mf : α → List (Str × MP)} (x : α) (h : EvA t ρ (fun F vs => vs.length + 1 = n ∧ pre x F vs)) : EvR (tMake C (spIn C n pre mf) [] E t) ρ (MP.o C (mf x)).R := fun F H σ s sl Q q =>
  h F H σ s sl _ fun vs F1 H1 l1 ⟨hl, hp⟩ => fun p dx np nd ne => by
    have hH : H p = none := by
      cases e : H p with
      | none => rfl
      | some o =>
        have := l1.sub p o e
        rw [np] at this; cases this
    have nF : F1 p = none := l1.s.none np
    have sub2 : Sub H1 (upd (upd H1 dx (.own p)) p (.ins C dx [])) := fun b o e => by
      rw [upd_ne (ne_of_none e np), upd_ne (ne_of_none e nd)]
      exact e
    rw [List.append_nil]
    refine ⟨hl, (x, p, dx), F1, l1.s.trans sub2, ⟨nF, [], upd_same, .nil⟩, ⟨vs, rfl, hp⟩, fun v F2 H2 l2 ⟨ev, h1, fs, h2, h3⟩ => ⟨ev, ?_⟩⟩
    refine q (.ref p) (upd F2 p (.ins C dx fs)) H2 ⟨?_, Le.freeze l2.s h2, fun b o e _ => ?_, fun b o e n => ?_, fun b o e => ?_, fun z => (l2.t (l1.t z)).upd (by intro _ z; cases z)⟩ ⟨p, dx, fs, rfl, upd_same, h3.mono (Sub.new h1)⟩
    · exact (l1.f.trans l2.f).trans (Sub.new h1)
    · exact l2.h b o (sub2 b o (l1.sub b o e)) (ne_of_none e hH)
    · rw [upd_ne (ne_of_none e hH)]
      exact l2.n b o (sub2 b o (l1.sub b o e)) (l1.n b o e n)
    · exact l2.g b o (sub2 b o (l1.sub b o e))
/-- o.m(..), a method that changes nothing -/
theorem e_methR {α : Type} {n : Nat} {mth : Str} {pre : α → Hp → List V → Prop} {post : α → Hp → V → Prop} {Rs : Hp → List V → Prop} (x : α) (h : EvR ta ρ (MP.o C ms).R) (ht : EvA t ρ Rs) (hc : ∀ F v vs, (MP.o C ms).R F v → Rs F vs → (v :: vs).length = n ∧ pre x F (v :: vs)) (hm : ms.lookup mth = none := by rfl) :
    EvR (tMeth C mth (spR n pre post) [] E ta t) ρ (post x) := fun F H σ s sl Q q =>
  h F H σ s sl _ fun v F1 H1 l1 r1 => by
    obtain ⟨a, dx, vs, ev, ea, hf⟩ := id r1
    refine ⟨a, dx, vs, ev, l1.s _ _ ea, hf.non hm, ht F1 H1 σ l1.s (sl.mono l1.f) _ fun us F2 H2 l2 r2 => ?_⟩
    obtain ⟨c1, c2⟩ := hc F2 v us ((MP.o C ms).mono l2.f r1) r2
    rw [List.append_nil]
    exact ⟨c1, x, F2, l2.s, c2, fun v F3 H3 l3 r3 => q v F3 H3 ((l1.trans l2).trans l3) r3⟩
/-- len(o) -/
theorem e_lenO {α : Type} {n : Nat} {pre : α → Hp → List V → Prop} (x : α) (nn : α → Nat) (h : EvR te ρ (MP.o C ms).R) (hc : ∀ F v, (MP.o C ms).R F v → pre x F [v]) (hn : nn x < 2 ^ 62) : Ev K (tCB (rLenO C (spR 1 pre fun x F v => v = .int (nn x))) (tCons te tNil)) ρ (.int (nn x)) := fun F H σ s sl Q q =>
  h F H σ s sl _ fun v F1 H1 l1 r1 => by
    obtain ⟨a, dx, vs, ev, ea, hf⟩ := id r1
    subst ev
    exact ⟨a, dx, vs, rfl, l1.s _ _ ea, rfl, x, F1, l1.s, hc F1 _ r1, fun u F2 H2 l2 e => ⟨nn x, e, hn, q _ F2 H2 (l1.trans l2) (.int _)⟩⟩
end
end LK

set_option Elab.async false
set_option linter.all false
set_option maxRecDepth 100000
set_option maxHeartbeats 2000000
/-! LKM: methods, getters, makers by promise; two kk_ wrappers more. -/
namespace LK
open PySem PySem.Spec PyProof.Rows L2
structure MOk (P : Program) (w : World) (K : PySem.W.Frag) (mg : Str → Option Value) (base : Heap) (CX : CXT) (k : Nat) (f : Addr) (ps : List Str) (sp : Sp) : Prop where
  ex : ∃ fd, FnOk P w K mg base CX k f fd ps sp ∧ Binds K fd ps []
section
variable {X : Cx} {K : PySem.W.Frag} {CX : CXT} {k : Nat} {C f p g : Addr} {x m : Str} {ps : List Str} {sp : Sp} {E : XK} {t : TA} {ta : TE} {p1 pos apos : Pos} {o e : Expr} {es : List Expr}
theorem pe_mth {pl : Sem Bool} (he : PE X o ta) (c : Cls X.K C) (hm : Meth X.K C m f) (F : MOk X.prog X.w X.K X.mg X.base CX k f ps sp) (hr : Room k X.A) (hx : Passes CX X E) (ha : PA X (e :: es) t)
    (hst : starEach (e :: es) X.env = (false, eval e X.env) :: starEach es X.env := by rfl) (hpl : (backTo pos (starEach es X.env)).any (·.1) = false := by rfl)
    (ht : eval (.Call (.Attribute o m apos) (e :: es) [] pos) X.env = (do
      let ov ← eval o X.env
      standAt apos.atName
      let (f, first) ← holding [ov] (getMethod ov m pl)
      callWith pos f first (backTo pos (starEach (e :: es) X.env)) (backToKw pos (keywordEach [] X.env))) := by rfl) :
    PE X (.Call (.Attribute o m apos) (e :: es) [] pos) (tMeth C m sp [] E ta t) := by
  obtain ⟨fd, F1, b⟩ := F.ex
  exact pe_meth he c hm F1 hr b .nil hx ha hst hpl ht
theorem pe_new (M : Mk X.K C f) (F : MOk X.prog X.w X.K X.mg X.base CX k f ps sp) (hr : Room (k + 1) X.A) (hg : Gl X x) (hm : X.mg x = some (.ref C)) (hx : Passes CX X E)
    (ha : PA X (e :: es) t) (hdb : (x == ("__debug__" : Str)) = false := by decide) (he : starEach (e :: es) X.env = (false, eval e X.env) :: starEach es X.env := by rfl) (hpl : (backTo pos (starEach es X.env)).any (·.1) = false := by rfl) :
    PE X (.Call (.Name x p1) (e :: es) [] pos) (tMake C sp [] E t) := by
  obtain ⟨fd, F1, b⟩ := F.ex
  exact pe_make M F1 hr hg hm b .nil hx ha hdb he hpl
theorem pe_prp (he : PE X e ta) (c : Cls X.K C) (hp : PropOf X.K C m p g) (F : MOk X.prog X.w X.K X.mg X.base CX k g ps sp) (hr : Room (k + 1) X.A) (hx : Passes CX X.nox E)
    (hab : attributeBase e m X.env (eval e X.env) = eval e X.env := by rfl) : PE X (.Attribute e m pos) (tProp C sp [] E ta) := by
  obtain ⟨fd, F1, b⟩ := F.ex
  exact pe_prop he c hp F1 hr b .nil hx hab
theorem cr_lenO (L : LenOf X.K C f) (F : MOk X.prog X.w X.K X.mg X.base CX0 k f ps sp) (hr : Room (k + 1) X.A) : CallR X (.builtin "len") (rLenO C sp) := by
  obtain ⟨fd, F1, b⟩ := F.ex
  exact call_lenO L F1 hr b
theorem kk_fld (h : X.K = K) (he : PE X e ta) (hb : attributeBase e m X.env (eval e X.env) = eval e X.env := by rfl) : PE X (.Attribute e m pos) (tFld K ta m) := by subst h; exact pe_fld he hb
end
end LK

set_option Elab.async false
set_option linter.all false
set_option maxRecDepth 100000
set_option maxHeartbeats 2000000
/-! LKP: descriptions with something unknown; made objects with it; defs that may raise an own error with one field. -/
namespace LK
open PySem PySem.Spec PyProof.Rows L2
/-- one of these descriptions -/
def MP.x {β : Type} (P : β → Prop) (m : β → MP) : MP := ⟨fun F v => ∃ y, P y ∧ (m y).R F v, fun e ⟨y, p, r⟩ => ⟨y, p, (m y).mono e r⟩⟩
section
variable {β : Type} {P : β → Prop} {m : β → MP} {S : Addr → Prop} {J : JP} {K : PySem.W.Frag} {te tv : TE} {t u : TS} {ρ : Ro} {Nx : Ro → JP} {R : V → JP} {R0 : Hp → V → Prop} {i : Nat}
theorem e_x (y : β) (p : P y) (h : EvR te ρ (m y).R) : EvR te ρ (MP.x P m).R := h.imp fun F v r => ⟨y, p, r⟩
theorem q_asgX (h : EvR te ρ (MP.x P m).R) (c : Cl J) (k : ∀ y, P y → St S J u (ρ.set i (some (m y))) Nx R) : St S J (tSeq (tAsg te (gName i)) u) ρ Nx R :=
  q_asgS (α := { y : β // P y }) (m := fun y => m y.1) (G := fun _ => J) (EvS.of h c) (fun v F H ⟨j, y, p, r⟩ => ⟨⟨y, p⟩, r, j⟩) fun y => k y.1 y.2
theorem slok_open {F : Hp} {σ : L2.St} (sl : SlOk F σ ρ) (hi : ρ[i]? = some (some (MP.x P m))) : ∃ y, P y ∧ SlOk F σ (ρ.set i (some (m y))) := by
  obtain ⟨v, e, y, p, r⟩ := sl.at_ i _ hi
  refine ⟨y, p, ?_⟩
  have z := sl.set (m := m y) i r
  have q : σ.set i (some v) = σ := by
    apply List.ext_getElem?
    intro j
    by_cases hj : i = j
    · subst hj
      have hl : i < σ.length := (List.getElem?_eq_some_iff.mp e).1
      rw [List.getElem?_set_self hl, e]
    · rw [List.getElem?_set_ne hj]
  rw [q] at z
  exact z
theorem s_open (hi : ρ[i]? = some (some (MP.x P m))) (k : ∀ y, P y → St S J t (ρ.set i (some (m y))) Nx R) : St S J t ρ Nx R := fun F H σ s j sl => by
  obtain ⟨y, p, sl'⟩ := slok_open sl hi
  exact k y p F H σ s j sl'
theorem e_open (hi : ρ[i]? = some (some (MP.x P m))) (k : ∀ y, P y → EvR te (ρ.set i (some (m y))) R0) : EvR te ρ R0 := fun F H σ s sl => by
  obtain ⟨y, p, sl'⟩ := slok_open sl hi
  exact k y p F H σ s sl'
/-- tuple(sorted(e)) -/
theorem e_tupSort {d : PyData} {xs : List Str} (h : Ev K te ρ d) (hd : itemsD d = some (xs.map PyData.str)) (hz : xs.length < 64) :
    EvR (tCB (rTupOf K) (tCons (tCB (rSortedA K) (tCons te tNil)) tNil)) ρ (MP.x (fun ys : List Str => ys.Perm xs) fun ys => MP.d K (.tuple (ys.map PyData.str))).R := fun F H σ s sl Q q =>
  e_sortedA h hd hz F H σ s sl _ fun v F1 H1 l1 ⟨ys, hp, _, dv⟩ => by
    cases dv with
    | lst hs ha => exact ⟨_, _, rfl, .inl ⟨sql_sub l1.s hs, fun l hl => q (.ref l) (upd F1 l _) _ (l1.trans (Le.new l1.s hl)) ⟨ys, hp, .tup (SqT.of upd_same) (ha.mono (Sub.new (l1.s.none hl)))⟩⟩⟩
/-- arguments, data of which P tells -/
abbrev EvAP (K : PySem.W.Frag) (ta : TA) (ρ : Ro) (P : List PyData → Prop) : Prop := EvA ta ρ (fun F vs => ∃ ds, P ds ∧ DatA K F ds vs)
theorem ap_nil : EvAP K tNil ρ (fun ds => ds = []) := fun F H σ s sl Q q => q _ F H (Fr.refl s) ⟨[], rfl, .nil⟩
theorem ap_cons {γ : Type} {Pg : γ → Prop} {dg : γ → PyData} {tr : TA} {Ps : List PyData → Prop} (h : EvR te ρ (MP.x Pg fun y => MP.d K (dg y)).R) (hr : EvAP K tr ρ Ps) : EvAP K (tCons te tr) ρ (fun ds => ∃ y r, Pg y ∧ Ps r ∧ ds = dg y :: r) := fun F H σ s sl Q q =>
  h F H σ s sl _ fun v F1 H1 l1 ⟨y, p, r1⟩ => hr F1 H1 σ l1.s (sl.mono l1.f) _ fun vs F2 H2 l2 ⟨ds, pd, r2⟩ => q _ F2 H2 (l1.trans l2) ⟨dg y :: ds, ⟨y, ds, p, pd, rfl⟩, .cons (Dat.mono l2.f r1) r2⟩
theorem ap_consD {d : PyData} {tr : TA} {Ps : List PyData → Prop} (h : Ev K te ρ d) (hr : EvAP K tr ρ Ps) : EvAP K (tCons te tr) ρ (fun ds => ∃ r, Ps r ∧ ds = d :: r) := fun F H σ s sl Q q =>
  h F H σ s sl _ fun v F1 H1 l1 r1 => hr F1 H1 σ l1.s (sl.mono l1.f) _ fun vs F2 H2 l2 ⟨ds, pd, r2⟩ => q _ F2 H2 (l1.trans l2) ⟨d :: ds, ⟨ds, pd, rfl⟩, .cons (r1.mono l2.f) r2⟩
theorem e_tupP {ta : TA} {Ps : List PyData → Prop} (h : EvAP K ta ρ Ps) (hl : ∀ ds, Ps ds → ds.length ≤ sizeLine) : EvR (tTup ta) ρ (MP.x Ps fun ds => MP.d K (.tuple ds)).R := fun F H σ s sl Q q =>
  h F H σ s sl _ fun vs F1 H1 l1 ⟨ds, p, r1⟩ => ⟨by rw [← r1.length]; exact hl ds p, fun a ha => q (.ref a) (upd F1 a (.tup vs)) _ (l1.trans (Le.new l1.s ha)) ⟨ds, p, .tup (SqT.of upd_same) (r1.mono (Sub.new (l1.s.none ha)))⟩⟩
/-- [e for ..], e some data of which P tells -/
theorem e_lcX {wi : TI} {g : TG} {ds : List PyData} {ns vs : List Nat} {up : PyData → Ro → Ro} (Pe : PyData → Prop) (hs : Src K wi ρ ds) (hg : ∀ d ∈ ds, GtD K g d ns (up d)) (hv : ∀ i ∈ ns, i ∈ vs) (hz : ds.length < sizeLine)
    (he : ∀ d ∈ ds, EvR te (up d (wipeR ρ vs)) (fun F v => ∃ e, Pe e ∧ Dat K F e v)) : EvR (tLc wi g tYes te vs) ρ (MP.x (fun es : List PyData => es.length = ds.length ∧ ∀ e ∈ es, Pe e) fun es => MP.d K (.list es)).R := by
  intro F H σ s sl Q q
  refine hs F H σ s sl _ fun T F1 H1 l1 y Dl hD => ?_
  have nF1 : F1 Dl = none := l1.s.none hD
  have nH : H Dl = none := by
    cases e : H Dl with
    | none => rfl
    | some o =>
      have := l1.sub Dl o e
      rw [hD] at this; cases this
  refine ⟨fun i m H' => m = ds.length - i ∧ i ≤ ds.length ∧ ∃ F' acc xs, Fr (· = Dl) F1 (upd H1 Dl (.lst [])) F' H' ∧ F' Dl = none ∧ H' Dl = some (.lst xs) ∧ DatA K F' acc xs ∧ acc.length = i ∧ ∀ e ∈ acc, Pe e,
    ⟨ds.length, by simp, Nat.zero_le _, F1, [], [], Fr.refl (l1.s.mut nF1), nF1, upd_same, .nil, rfl, by simp⟩, ?_⟩
  rintro i m H' ⟨rfl, hi, F', acc, xs, l', nF, hDl, hA, hacc, hP⟩
  by_cases hlt : i < ds.length
  · have hd : ds[i]? = some ds[i] := List.getElem?_eq_getElem hlt
    have hm := List.mem_of_getElem? hd
    refine .inr ⟨y.go F' H' l'.f l'.s i _ hd, fun H2 => i + 1 ≤ ds.length ∧ ∃ F2 acc xs, Fr (· = Dl) F1 (upd H1 Dl (.lst [])) F2 H2 ∧ F2 Dl = none ∧ H2 Dl = some (.lst xs) ∧ DatA K F2 acc xs ∧ acc.length = i + 1 ∧ ∀ e ∈ acc, Pe e, fun H2 ⟨h1, h2⟩ => ⟨ds.length - (i + 1), by omega, rfl, h1, h2⟩, fun x H2 yl => ?_⟩
    obtain ⟨F2, l2, dx⟩ := y.yld F' H' l'.f l'.s i _ hd x H2 yl
    refine hg _ hm F2 x _ (wipeR ρ vs) H2 l2.s dx (((sl.mono l1.f).wipe vs).mono (l'.f.trans l2.f)) _ fun σ3 sl3 o3 => ⟨(wipe_out o3 hv).trans (wipe_wipe σ vs), ?_⟩
    refine he _ hm F2 H2 σ3 l2.s sl3 _ fun v F3 H3 l3 ⟨e, pe, de⟩ => ?_
    have l := l2.trans l3
    have d3 := l.h Dl _ hDl (fun z => z)
    have n3 := l.n Dl _ hDl nF
    have hA3 : DatA K F3 acc xs := hA.mono l.f
    refine ⟨xs, d3, by rw [← hA3.length]; omega, hlt, F3, acc ++ [e], xs ++ [v], (l'.trans l.up).trans (Fr.mut l3.s n3 rfl), n3, upd_same, hA3.app (.cons de .nil), by rw [List.length_append, hacc]; rfl, fun e' he' => ?_⟩
    rcases List.mem_append.mp he' with z | z
    · exact hP e' z
    · rw [List.mem_singleton.mp z]; exact pe
  · have e : i = ds.length := by omega
    subst e
    refine .inl ⟨y.stop F' H' l'.f l'.s, ?_⟩
    refine q (.ref Dl) (upd F' Dl (.lst xs)) H' ⟨(l1.f.trans l'.f).trans (Sub.new nF), Le.freeze l'.s hDl, fun b o e _ => ?_, fun b o e n => ?_, fun b o e => ?_, fun z => (l'.t (l1.t z)).upd (by intro _ z; cases z)⟩ ⟨acc, ⟨hacc, hP⟩, .lst (SqL.of upd_same) (hA.mono (Sub.new nF))⟩
    · have hne : b ≠ Dl := ne_of_none e nH
      exact l'.h b o (by rw [upd_ne hne]; exact l1.sub b o e) hne
    · have hne : b ≠ Dl := ne_of_none e nH
      rw [upd_ne hne]
      exact l'.n b o (by rw [upd_ne hne]; exact l1.sub b o e) (l1.n b o e n)
    · have hne : b ≠ Dl := ne_of_none e nH
      exact l'.g b o (by rw [upd_ne hne]; exact l1.sub b o e)
/-- tuple(e), e a list of which P tells -/
theorem e_tupOfX {Ps : List PyData → Prop} (h : EvR te ρ (MP.x Ps fun es => MP.d K (.list es)).R) : EvR (tCB (rTupOf K) (tCons te tNil)) ρ (MP.x Ps fun es => MP.d K (.tuple es)).R := fun F H σ s sl Q q =>
  h F H σ s sl _ fun v F1 H1 l1 ⟨es, p, dv⟩ => by
    have dv : Dat K F1 (.list es) v := dv
    cases dv with
    | lst hs ha => exact ⟨_, _, rfl, .inl ⟨sql_sub l1.s hs, fun l hl => q (.ref l) (upd F1 l _) _ (l1.trans (Le.new l1.s hl)) ⟨es, p, .tup (SqT.of upd_same) (ha.mono (Sub.new (l1.s.none hl)))⟩⟩⟩
end
/-! ### made objects -/
section
variable {β : Type} {P : β → Prop} {m : β → MP} {K : PySem.W.Frag} {ρ : Ro} {te tv ta : TE} {t : TA} {C a dx : Addr} {ms : List (Str × MP)} {f : Str} {S : Addr → Prop} {u : TS} {Nx : Ro → JP} {R : V → JP} {E : XK}
theorem q_fldX {i : Nat} (hi : ρ[i]? = some (some (MP.v (.ref a)))) (h : EvR tv ρ (MP.x P m).R) (c : Cls K C) (n : NoAttr K C f) (hS : S a) (k : ∀ y, P y → St S (InsAt C a dx (ms ++ [(f, m y)])) u ρ Nx R) (hn : ms.lookup f = none := by rfl) (hl : ms.length < 1000 := by simp) :
    St S (InsAt C a dx ms) (tSeq (sFld K (tVar i) tv f) u) ρ Nx R := fun F H σ s j sl D hr hnx =>
  h F H σ s sl _ fun v F1 H1 l1 ⟨y, py, r1⟩ => by
    obtain ⟨h1, vs, h2, h3⟩ := cl_ins F H F1 H1 l1 j
    obtain ⟨x, ex, ea⟩ := sl.at_ i _ hi
    have ea : x = .ref a := ea
    subst ea
    refine ⟨.ref a, ex, a, C, dx, vs, rfl, h2, c, n, by rw [h3.length]; exact hl, ?_⟩
    have l2 : Fr S F H F1 (upd H1 a (.ins C dx (putF f v vs))) := l1.up.trans (Fr.mut l1.s h1 hS)
    exact k y py F1 _ σ l2.s ⟨h1, _, upd_same, Flds.put r1 h3 hn⟩ (sl.mono l1.f) D (fun v F2 H2 l r => hr v F2 H2 (l2.trans l) r) fun ρ' σ' F2 H2 l r => hnx ρ' σ' F2 H2 (l2.trans l) r
theorem s_fldX {i : Nat} (hi : ρ[i]? = some (some (MP.v (.ref a)))) (h : EvR tv ρ (MP.x P m).R) (c : Cls K C) (n : NoAttr K C f) (hS : S a) (k : ∀ y, P y → ∀ F H, InsAt C a dx (ms ++ [(f, m y)]) F H → Nx ρ F H) (hn : ms.lookup f = none := by rfl) (hl : ms.length < 1000 := by simp) :
    St S (InsAt C a dx ms) (sFld K (tVar i) tv f) ρ Nx R := fun F H σ s j sl D hr hnx =>
  h F H σ s sl _ fun v F1 H1 l1 ⟨y, py, r1⟩ => by
    obtain ⟨h1, vs, h2, h3⟩ := cl_ins F H F1 H1 l1 j
    obtain ⟨x, ex, ea⟩ := sl.at_ i _ hi
    have ea : x = .ref a := ea
    subst ea
    refine ⟨.ref a, ex, a, C, dx, vs, rfl, h2, c, n, by rw [h3.length]; exact hl, ?_⟩
    exact hnx ρ σ F1 _ (l1.up.trans (Fr.mut l1.s h1 hS)) (k y py F1 _ ⟨h1, _, upd_same, Flds.put r1 h3 hn⟩) (sl.mono l1.f)
/-- the promise of an __init__ that sets the attributes ms x y of the new instance, y some of which P x tells -/
abbrev spIX (C : Addr) {α β : Type} (n : Nat) (pre : α → Hp → List V → Prop) (Pm : α → β → Prop) (ms : α → β → List (Str × MP)) : Sp :=
  spS (α := α × Addr × Addr) n (fun x b => b = x.2.1) (fun x => InsAt C x.2.1 x.2.2 []) (fun x F vs => ∃ args, vs = .ref x.2.1 :: args ∧ pre x.1 F args) (fun x v F H => v = .non ∧ ∃ y, Pm x.1 y ∧ InsAt C x.2.1 x.2.2 (ms x.1 y) F H)
theorem e_makeX {α β : Type} {n : Nat} {pre : α → Hp → List V → Prop} {Pm : α → β → Prop} {mf : α → β → List (Str × MP)} (x : α) (h : EvA t ρ (fun F vs => vs.length + 1 = n ∧ pre x F vs)) :
    EvR (tMake C (spIX C n pre Pm mf) [] E t) ρ (MP.x (Pm x) fun y => MP.o C (mf x y)).R := fun F H σ s sl Q q =>
  h F H σ s sl _ fun vs F1 H1 l1 ⟨hl, hp⟩ => fun p dx np nd ne => by
    have hH : H p = none := by
      cases e : H p with
      | none => rfl
      | some o =>
        have := l1.sub p o e
        rw [np] at this; cases this
    have nF : F1 p = none := l1.s.none np
    have sub2 : Sub H1 (upd (upd H1 dx (.own p)) p (.ins C dx [])) := fun b o e => by
      rw [upd_ne (ne_of_none e np), upd_ne (ne_of_none e nd)]
      exact e
    rw [List.append_nil]
    refine ⟨hl, (x, p, dx), F1, l1.s.trans sub2, ⟨nF, [], upd_same, .nil⟩, ⟨vs, rfl, hp⟩, fun v F2 H2 l2 ⟨ev, y, py, h1, fs, h2, h3⟩ => ⟨ev, ?_⟩⟩
    refine q (.ref p) (upd F2 p (.ins C dx fs)) H2 ⟨?_, Le.freeze l2.s h2, fun b o e _ => ?_, fun b o e n => ?_, fun b o e => ?_, fun z => (l2.t (l1.t z)).upd (by intro _ z; cases z)⟩ ⟨y, py, p, dx, fs, rfl, upd_same, h3.mono (Sub.new h1)⟩
    · exact (l1.f.trans l2.f).trans (Sub.new h1)
    · exact l2.h b o (sub2 b o (l1.sub b o e)) (ne_of_none e hH)
    · rw [upd_ne (ne_of_none e hH)]
      exact l2.n b o (sub2 b o (l1.sub b o e)) (l1.n b o e n)
    · exact l2.g b o (sub2 b o (l1.sub b o e))
end
/-! ### raising -/
/-- the error C with its field f = the data t is taken, from (F0, H0) on -/
def EX (K : PySem.W.Frag) (C : Addr) (f : Str) (F0 H0 : Hp) (t : PyData) (E : XK) : Prop := ∀ v F2 H2 d, Le F0 H0 F2 H2 → Dat K F2 t v → H2 d = none → E (.ref C) (some d) (upd H2 d (.xd [(f, v)]))
theorem EX.later {K : PySem.W.Frag} {C : Addr} {f : Str} {F0 H0 F1 H1 : Hp} {t : PyData} {E : XK} (h : EX K C f F0 H0 t E) (l : Le F0 H0 F1 H1) : EX K C f F1 H1 t E := fun v F2 H2 d l2 => h v F2 H2 d (l.trans l2)
/-- a def that raises C (its field f: the datum due x), or gives back what post tells -/
def spX {α : Type} (K : PySem.W.Frag) (C : Addr) (f : Str) (n : Nat) (pre : α → Hp → List V → Prop) (due : α → Option PyData) (post : α → Hp → V → Prop) : Sp := fun vs H Q E => vs.length = n ∧ ∃ (x : α) (F : Hp), Sub F H ∧ pre x F vs ∧
  (due x = none → ∀ v F2 H2, Le F H F2 H2 → post x F2 v → Q v H2) ∧ ∀ t, due x = some t → EX K C f F H t E
/-- where the error is taken -/
abbrev JX (F0 H0 : Hp) : JP := fun F H => Le F0 H0 F H
theorem cl_X {F0 H0 : Hp} : Cl (JX F0 H0) := fun F H F2 H2 l j => j.trans l
section
variable {P : Program} {w : World} {K : PySem.W.Frag} {mg : Str → Option Value} {base : Heap} {x qual : Str} {params : Arguments} {body : List Stmt} {scope : Scope} {dvs : List V} {kws : List (Str × V)} {f : Addr} {fd : FuncData} {N ps : List Str} {k : Nat}
theorem okX {α : Type} {n : Nat} {C : Addr} {fld : Str} {pre : α → Hp → List V → Prop} {due : α → Option PyData} {post : α → Hp → V → Prop} (F : FunD K x qual params body scope dvs kws f fd) (S : FnScope N ps scope) (ms : α → List MP)
    (hm : ∀ x F vs, vs.length = n → pre x F vs → SlOk F (L2.start N vs) (st0 N (ms x)))
    (hb : ∀ (cdv : Value) (A : Around) (outer : List Env) (s : Shared) (H : Hp) (E : XK), Room k (A.deeper (envOfC qual scope s.heap.objs.size f cdv)) →
      ∃ t, PSs (cxOf (L2.CX P w) P w K mg base N qual scope f cdv A outer s H E) body t ∧ ∀ x F0, (∀ t, due x = some t → EX K C fld F0 H t E) → (∃ vs, pre x F0 vs) → St S0 (JX F0 H) t (st0 N (ms x)) (fun _ F _ => due x = none ∧ post x F .non) (fun v F _ => due x = none ∧ post x F v)) (hn : ps.length = n := by rfl) :
    FnOk P w K mg base (L2.CX P w) (k + 1) f fd ps (spX K C fld n pre due post) := by
  refine F.ok S (fun vs H Q E h => by rw [hn]; exact h.1) fun cdv A outer s H vs Q E hr h => ?_
  obtain ⟨t, h1, h2⟩ := hb cdv A outer s H E hr
  refine ⟨t, h1, ?_⟩
  obtain ⟨hl, x, F0, s0, hp, q1, q2⟩ := h
  exact h2 x F0 q2 ⟨vs, hp⟩ F0 H _ s0 (Fr.refl s0) (hm x F0 vs hl hp) _ (fun v F2 H2 l r => q1 r.1 v F2 H2 l r.2) fun _ _ F2 H2 l r _ => q1 r.1 .non F2 H2 l r.2
end
/-- it raises, whatever is wished of a value -/
def EvZ (J : JP) (te : TE) (ρ : Ro) : Prop := ∀ F H σ, Sub F H → J F H → SlOk F σ ρ → ∀ Q : VK, te σ H Q
section
variable {K : PySem.W.Frag} {C : Addr} {f : Str} {ρ : Ro} {ta : TA} {E : XK} {S : Addr → Prop} {J : JP} {te : TE} {t u : TS} {Nx : Ro → JP} {R : V → JP} {F0 H0 : Hp}
theorem e_callX {α : Type} {n : Nat} {pre : α → Hp → List V → Prop} {due : α → Option PyData} {post : α → Hp → V → Prop} (x : α) (hd : due x = none) (h : EvA ta ρ (fun F vs => vs.length = n ∧ pre x F vs)) : EvR (tCall (spX K C f n pre due post) [] E ta) ρ (post x) := fun F H σ s sl Q q =>
  h F H σ s sl _ fun vs F1 H1 l1 ⟨hl, hp⟩ => ⟨by rw [List.append_nil]; exact hl, x, F1, l1.s, by rw [List.append_nil]; exact hp, fun _ v F2 H2 l r => q v F2 H2 (l1.trans l) r, fun t e => by rw [hd] at e; cases e⟩
theorem z_callX {α : Type} {n : Nat} {pre : α → Hp → List V → Prop} {due : α → Option PyData} {post : α → Hp → V → Prop} (x : α) {d : PyData} (hd : due x = some d) (hE : EX K C f F0 H0 d E) (h : EvA ta ρ (fun F vs => vs.length = n ∧ pre x F vs)) : EvZ (JX F0 H0) (tCall (spX K C f n pre due post) [] E ta) ρ := fun F H σ s j sl Q =>
  h F H σ s sl _ fun vs F1 H1 l1 ⟨hl, hp⟩ => ⟨by rw [List.append_nil]; exact hl, x, F1, l1.s, by rw [List.append_nil]; exact hp, (fun e => absurd (hd.symm.trans e) (by simp)), (fun t e => by rw [hd] at e; cases e; exact hE.later (j.trans l1))⟩
theorem z_ret (h : EvZ J te ρ) : St S J (tRet te) ρ Nx R := fun F H σ s j sl D _ _ => h F H σ s j sl _
theorem z_asg {g : TG} (h : EvZ J te ρ) : St S J (tSeq (tAsg te g) u) ρ Nx R := fun F H σ s j sl D _ _ => h F H σ s j sl _
theorem z_drop (h : EvZ J te ρ) : St S J (tSeq (tDrop te) u) ρ Nx R := fun F H σ s j sl D _ _ => h F H σ s j sl _
theorem z_cmp {o0 : Addr → HO} {g : TG} {tt : TT} {vs : List Nat} {cs : List CR} {leaf : Addr → SH} (h : EvZ J te ρ) : EvZ J (tCmp o0 ⟨iList K te, g, tt, vs⟩ cs leaf) ρ := fun F H σ s j sl Q => h F H σ s j sl _
theorem z_for {g : TG} {tb : TS} (h : EvZ J te ρ) : St S J (tSeq (tFor (iList K te) g tb) u) ρ Nx R := fun F H σ s j sl D _ _ => h F H σ s j sl _
/-- raise C(e) -/
theorem z_raise {d : PyData} (h : Ev K te ρ d) (hE : EX K C f F0 H0 d E) : St S (JX F0 H0) (tRaise C f te E) ρ Nx R :=
  s_raise (R0 := fun F v => Dat K F d v) h cl_X fun v F H p s j r np => hE v F H p j r np
end
end LK

set_option Elab.async false
set_option linter.all false
set_option maxRecDepth 100000
set_option maxHeartbeats 2000000
/-! LKQ: for-loops whose slots are told afresh ahead of each turn. -/
namespace LK
open PySem PySem.Spec PyProof.Rows L2
/-- the second tells no more than the first -/
inductive WeakL : Ro → Ro → Prop
  | nil : WeakL [] []
  | same {x : Option MP} {ρ ρ' : Ro} : WeakL ρ ρ' → WeakL (x :: ρ) (x :: ρ')
  | drop {x : Option MP} {ρ ρ' : Ro} : WeakL ρ ρ' → WeakL (x :: ρ) (none :: ρ')
  | imp {m m' : MP} {ρ ρ' : Ro} : (∀ F v, m.R F v → m'.R F v) → WeakL ρ ρ' → WeakL (some m :: ρ) (some m' :: ρ')
theorem WeakL.len : ∀ {ρ ρ' : Ro}, WeakL ρ ρ' → ρ'.length = ρ.length
  | _, _, .nil => rfl
  | _, _, .same t => congrArg Nat.succ (WeakL.len t)
  | _, _, .drop t => congrArg Nat.succ (WeakL.len t)
  | _, _, .imp _ t => congrArg Nat.succ (WeakL.len t)
theorem WeakL.at_ : ∀ {ρ ρ' : Ro}, WeakL ρ ρ' → ∀ (i : Nat) (m' : MP), ρ'[i]? = some (some m') → ∃ m : MP, ρ[i]? = some (some m) ∧ ∀ F v, m.R F v → m'.R F v
  | _, _, .nil, i, m', e => by simp at e
  | _, _, .same t, 0, m', e => ⟨m', by simpa using e, fun _ _ r => r⟩
  | _, _, .same t, i + 1, m', e => by
    obtain ⟨m, h1, h2⟩ := WeakL.at_ t i m' (by simpa using e)
    exact ⟨m, by simpa using h1, h2⟩
  | _, _, .drop t, 0, m', e => by simp at e
  | _, _, .drop t, i + 1, m', e => by
    obtain ⟨m, h1, h2⟩ := WeakL.at_ t i m' (by simpa using e)
    exact ⟨m, by simpa using h1, h2⟩
  | _, _, .imp (m := m) h t, 0, m', e => by
    rw [List.getElem?_cons_zero] at e
    cases e
    exact ⟨m, by simp, h⟩
  | _, _, .imp _ t, i + 1, m', e => by
    obtain ⟨m, h1, h2⟩ := WeakL.at_ t i m' (by simpa using e)
    exact ⟨m, by simpa using h1, h2⟩
theorem WeakL.ok {ρ ρ' : Ro} {F : Hp} {σ : L2.St} (w : WeakL ρ ρ') (sl : SlOk F σ ρ) : SlOk F σ ρ' := sl.weak w.len w.at_
theorem WeakL.refl : ∀ ρ : Ro, WeakL ρ ρ
  | [] => .nil
  | _ :: r => .same (WeakL.refl r)
section
variable {K : PySem.W.Frag} {S : Addr → Prop} {J : JP} {wi : TI} {g : TG} {tb u : TS} {ρ ρL : Ro} {Nx : Ro → JP} {R : V → JP} {ds : List PyData} {ns : List Nat} {up : PyData → Ro → Ro}
/-- I i: what holds ahead of turn i -/
theorem q_forX {β : Type} {Py : β → Prop} {Dd : β → List PyData} (hs : SrcX K wi ρ Py Dd) (c : Cl J) (hg : ∀ y, Py y → ∀ d ∈ Dd y, GtD K g d ns (up d)) (I : Nat → JP) (w0 : WeakL ρ ρL) (h0 : ∀ F H, J F H → I 0 F H) (cl : ∀ i, Cl (I i))
    (hb : ∀ y, Py y → ∀ i d, (Dd y)[i]? = some d → St S (I i) tb (up d ρL) (fun ρ2 F H => WeakL ρ2 ρL ∧ I (i + 1) F H) R) (k : ∀ y, Py y → St S (I (Dd y).length) u ρL Nx R) : St S J (tSeq (tFor wi g tb) u) ρ Nx R := fun F H σ s j sl D hr hn =>
  hs F H σ s sl _ fun yy T F1 H1 py l1 y => by
    have hg := hg yy py
    have hb := hb yy py
    have k := k yy py
    generalize Dd yy = ds at hg hb k y
    refine ⟨fun i m σ' H' => m = ds.length - i ∧ i ≤ ds.length ∧ ∃ F', Fr S F H F' H' ∧ Sub F1 F' ∧ I i F' H' ∧ SlOk F' σ' ρL, ⟨ds.length, by simp, Nat.zero_le _, F1, l1.up, Sub.refl F1, h0 F1 H1 (c F H F1 H1 l1 j), w0.ok (sl.mono l1.f)⟩, ?_⟩
    rintro i m σ' H' ⟨rfl, hi, F', l', sub, hI, sl'⟩
    by_cases hlt : i < ds.length
    · have hd : ds[i]? = some ds[i] := List.getElem?_eq_getElem hlt
      refine .inr ⟨y.go F' H' sub l'.s i _ hd, fun σ2 H2 => i + 1 ≤ ds.length ∧ ∃ F2, Fr S F H F2 H2 ∧ Sub F1 F2 ∧ I (i + 1) F2 H2 ∧ SlOk F2 σ2 ρL, fun σ2 H2 ⟨h1, h2⟩ => ⟨ds.length - (i + 1), by omega, rfl, h1, h2⟩, fun x H2 yl => ?_⟩
      obtain ⟨F2, l2, dx⟩ := y.yld F' H' sub l'.s i _ hd x H2 yl
      refine hg _ (List.mem_of_getElem? hd) F2 x σ' ρL H2 l2.s dx (sl'.mono l2.f) _ fun σ3 sl3 _ => ?_
      refine hb i _ hd F2 H2 σ3 l2.s (cl i F' H' F2 H2 l2 hI) sl3 _ (fun v F4 H4 l4 r4 => hr v F4 H4 ((l'.trans l2.up).trans l4) r4) fun ρ4 σ4 F4 H4 l4 ⟨w4, n4⟩ sl4 => ?_
      exact ⟨hlt, F4, (l'.trans l2.up).trans l4, (sub.trans l2.f).trans l4.f, n4, w4.ok sl4⟩
    · have e : i = ds.length := by omega
      subst e
      exact .inl ⟨y.stop F' H' sub l'.s, k F' H' σ' l'.s hI sl' D (fun v F2 H2 l r => hr v F2 H2 (l'.trans l) r) fun ρ' σ' F2 H2 l r => hn ρ' σ' F2 H2 (l'.trans l) r⟩
theorem q_for (hs : Src K wi ρ ds) (c : Cl J) (hg : ∀ d ∈ ds, GtD K g d ns (up d)) (I : Nat → JP) (w0 : WeakL ρ ρL) (h0 : ∀ F H, J F H → I 0 F H) (cl : ∀ i, Cl (I i))
    (hb : ∀ i d, ds[i]? = some d → St S (I i) tb (up d ρL) (fun ρ2 F H => WeakL ρ2 ρL ∧ I (i + 1) F H) R) (k : St S (I ds.length) u ρL Nx R) : St S J (tSeq (tFor wi g tb) u) ρ Nx R :=
  q_forX (SrcX.of hs) c (fun _ _ => hg) I w0 h0 cl (fun _ _ => hb) (fun _ _ => k)
/-- the loop is the body's last statement -/
theorem s_forL (hs : Src K wi ρ ds) (c : Cl J) (hg : ∀ d ∈ ds, GtD K g d ns (up d)) (I : Nat → JP) (w0 : WeakL ρ ρL) (h0 : ∀ F H, J F H → I 0 F H) (cl : ∀ i, Cl (I i))
    (hb : ∀ i d, ds[i]? = some d → St S (I i) tb (up d ρL) (fun ρ2 F H => WeakL ρ2 ρL ∧ I (i + 1) F H) R) (hn : ∀ F H, I ds.length F H → Nx ρL F H) : St S J (tFor wi g tb) ρ Nx R := fun F H σ s j sl D hr hnx => by
  have key := q_for (u := tNext) (Nx := Nx) (S := S) (R := R) hs c hg I w0 h0 cl hb (s_next hn)
  exact key F H σ s j sl D hr hnx
/-- if c: return ..; the block goes on otherwise -/
theorem s_ifret {b : Bool} {tt : TT} {t : TS} (h : EvB tt ρ b) (c : Cl J) (h1 : b = true → St S J t ρ NoNx R) (h2 : b = false → ∀ F H, J F H → Nx ρ F H) : St S J (tIfS tt t tNext) ρ Nx R :=
  s_if h c (fun e => (h1 e).imp (fun _ _ _ r => r) fun _ _ _ z => z.elim) fun e => s_next (h2 e)
end
section
variable {K : PySem.W.Frag} {S : Addr → Prop} {J : JP} {ρ : Ro}
/-- a test whose answer is not told -/
theorem sb_test {te : TE} (h : EvR te ρ (fun F v => ∃ b, Dat K F (.bool b) v)) (c : Cl J) : EvSB S J (tTest te) ρ (fun _ F H => J F H) := fun F H σ s j sl Q q => h F H σ s sl _ fun v F1 H1 l1 ⟨b, r⟩ => by
  cases r
  exact ⟨b, rfl, q b F1 H1 l1.up (c F H F1 H1 l1 j)⟩
theorem e_callE {α : Type} {n : Nat} {E : XK} {ta : TA} {pre : α → Hp → List V → Prop} {post : α → Hp → V → Prop} {Px : α → Prop} (h : EvA ta ρ (fun F vs => ∃ x, Px x ∧ vs.length = n ∧ pre x F vs)) : EvR (tCall (spR n pre post) [] E ta) ρ (fun F v => ∃ x, Px x ∧ post x F v) := fun F H σ s sl Q q =>
  h F H σ s sl _ fun vs F1 H1 l1 ⟨x, px, hl, hp⟩ => ⟨by rw [List.append_nil]; exact hl, x, F1, l1.s, by rw [List.append_nil]; exact hp, fun v F2 H2 l r => q v F2 H2 (l1.trans l) ⟨x, px, r⟩⟩
end
/-- values as described -/
inductive Mv (F : Hp) : List MP → List V → Prop
  | nil : Mv F [] []
  | cons {m : MP} {v : V} {ms : List MP} {vs : List V} : m.R F v → Mv F ms vs → Mv F (m :: ms) (v :: vs)
theorem Mv.get {F : Hp} : ∀ {ms : List MP} {vs : List V}, Mv F ms vs → ∀ (i : Nat) (m : MP), ms[i]? = some m → ∃ v, vs[i]? = some v ∧ m.R F v
  | _, _, .nil, i, m, e => by simp at e
  | _, _, .cons h t, 0, m, e => by simp at e; subst e; exact ⟨_, rfl, h⟩
  | _, _, .cons h t, i + 1, m, e => by
    obtain ⟨v, a, b⟩ := Mv.get t i m (by simpa using e)
    exact ⟨v, by simpa using a, b⟩
theorem Mv.length {F : Hp} : ∀ {ms : List MP} {vs : List V}, Mv F ms vs → vs.length = ms.length
  | _, _, .nil => rfl
  | _, _, .cons _ t => congrArg Nat.succ (Mv.length t)
theorem Mv.data {K : PySem.W.Frag} {F : Hp} : ∀ {ds : List PyData} {vs : List V}, DatA K F ds vs → Mv F (ds.map (MP.d K)) vs
  | _, _, .nil => .nil
  | _, _, .cons h t => .cons h (Mv.data t)
theorem slok_mv {N : List Str} {F : Hp} {ms : List MP} {vs : List V} (h : Mv F ms vs) : SlOk F (L2.start N vs) (st0 N ms) := slok_start h.length h.get
def upAR (i j : Nat) (K : PySem.W.Frag) : PyData → Ro → Ro
  | .tuple [a, r], ρ => (ρ.set i (some (MP.d K a))).set j (some (MP.d K r))
  | _, ρ => ρ
def up3 (i j k : Nat) (K : PySem.W.Frag) : PyData → Ro → Ro
  | .tuple [a, b, c], ρ => ((ρ.set i (some (MP.d K a))).set j (some (MP.d K b))).set k (some (MP.d K c))
  | _, ρ => ρ
theorem enumD_mem {k : Nat} {ds : List PyData} {e : PyData} (h : e ∈ enumD k ds) : ∃ (i : Nat) (d : PyData), d ∈ ds ∧ i < ds.length ∧ e = .tuple [.int ((k + i : Nat) : Int), d] := by
  obtain ⟨i, hi⟩ := List.mem_iff_getElem?.mp h
  obtain ⟨d, h1, h2⟩ := enumD_get hi
  exact ⟨i, d, List.mem_of_getElem? h1, (List.getElem?_eq_some_iff.mp h1).1, h2⟩
end LK

set_option Elab.async false
set_option linter.all false
set_option maxRecDepth 100000
set_option maxHeartbeats 2000000
/-! LKT: slices, tuple + tuple, calls by keyword of one word. -/
namespace LK
open PySem PySem.Spec PyProof.Rows L2
def cutD (ds : List PyData) (lo hi : Option Int) : List PyData := (ds.drop (HT.sIx ds.length 0 lo)).take (HT.sIx ds.length ds.length hi - HT.sIx ds.length 0 lo)
theorem DatA.cut {K : PySem.W.Frag} {F : Hp} {ds : List PyData} {vs : List V} (lo hi : Option Int) (h : DatA K F ds vs) : DatA K F (cutD ds lo hi) (cutV vs lo hi) := by
  unfold cutD cutV
  rw [h.length]
  exact (h.drop _).take _
theorem cut_all {ds : List PyData} {lo hi : Option Int} (h : HT.sIx ds.length 0 lo = 0 ∧ HT.sIx ds.length ds.length hi = ds.length) : cutD ds lo hi = ds := by
  unfold cutD
  rw [h.1, h.2]
  simp
theorem cut_to {ds : List PyData} {i : Nat} (h : i ≤ ds.length) : cutD ds none (some (i : Int)) = ds.take i := by
  unfold cutD
  rw [HT.sIx_none, HT.sIx_nat, Nat.min_eq_left h]
  simp
theorem cut_from {ds : List PyData} {i : Nat} (h : i ≤ ds.length) : cutD ds (some (i : Int)) none = ds.drop i := by
  unfold cutD
  rw [HT.sIx_none, HT.sIx_nat, Nat.min_eq_left h]
  exact List.take_of_length_le (by rw [List.length_drop]; exact Nat.le_refl _)
theorem cut_to' {ds : List PyData} {i : Nat} : cutD ds none (some (i : Int)) = ds.take i := by
  unfold cutD
  rw [HT.sIx_none, HT.sIx_nat, List.drop_zero, Nat.sub_zero]
  by_cases h : i ≤ ds.length
  · rw [Nat.min_eq_left h]
  · rw [Nat.min_eq_right (by omega), List.take_of_length_le (Nat.le_refl _), List.take_of_length_le (by omega)]
theorem cut_from' {ds : List PyData} {i : Nat} : cutD ds (some (i : Int)) none = ds.drop i := by
  unfold cutD
  rw [HT.sIx_none, HT.sIx_nat, List.take_of_length_le (by rw [List.length_drop]; exact Nat.le_refl _)]
  by_cases h : i ≤ ds.length
  · rw [Nat.min_eq_left h]
  · rw [Nat.min_eq_right (by omega), List.drop_of_length_le (Nat.le_refl _), List.drop_of_length_le (by omega)]
def EvP (tp : TO) (ρ : Ro) (i : Option Int) : Prop := ∀ F H σ, Sub F H → SlOk F σ ρ → ∀ Q : Option Int → Hp → Prop, (∀ F2 H2, Le F H F2 H2 → Q i H2) → tp σ H Q
section
variable {K : PySem.W.Frag} {ρ : Ro} {te ta tb : TE} {tl th : TO} {lo hi : Option Int} {ds es : List PyData} {d : PyData}
theorem p_none : EvP tNoPart ρ none := fun F H σ s sl Q q => q F H (Fr.refl s)
theorem p_some {i : Int} (h : Ev K te ρ (.int i)) : EvP (tPart te) ρ (some i) := fun F H σ s sl Q q => h F H σ s sl _ fun v F1 H1 l1 r1 => by
  cases r1
  exact ⟨i, rfl, q F1 H1 l1⟩
theorem e_slL (h : Ev K te ρ (.list ds)) (h1 : EvP tl ρ lo) (h2 : EvP th ρ hi) : Ev K (tSl (rSlL K) te tl th) ρ (.list (cutD ds lo hi)) := fun F H σ s sl Q q =>
  h F H σ s sl _ fun v F1 H1 l1 r1 => h1 F1 H1 σ l1.s (sl.mono l1.f) _ fun F2 H2 l2 => h2 F2 H2 σ l2.s (sl.mono (l1.f.trans l2.f)) _ fun F3 H3 l3 => by
    have l := l2.trans l3
    cases r1 with
    | lst hs ha => exact ⟨_, _, rfl, sql_sub (l.f.trans l3.s) hs, fun p hp => q (.ref p) (upd F3 p _) _ ((l1.trans l).trans (Le.new l3.s hp)) (.lst (SqL.of upd_same) (((ha.mono l.f).mono (Sub.new (l3.s.none hp))).cut lo hi))⟩
theorem e_slT (h : Ev K te ρ (.tuple ds)) (h1 : EvP tl ρ lo) (h2 : EvP th ρ hi) : Ev K (tSl (rSlA K) te tl th) ρ (.tuple (cutD ds lo hi)) := fun F H σ s sl Q q =>
  h F H σ s sl _ fun v F1 H1 l1 r1 => h1 F1 H1 σ l1.s (sl.mono l1.f) _ fun F2 H2 l2 => h2 F2 H2 σ l2.s (sl.mono (l1.f.trans l2.f)) _ fun F3 H3 l3 => by
    have l := l2.trans l3
    cases r1 with
    | tup hs ha =>
      refine ⟨_, _, rfl, sqt_sub (l.f.trans l3.s) hs, fun hw => ?_, fun hw p hp => q (.ref p) (upd F3 p _) _ ((l1.trans l).trans (Le.new l3.s hp)) (.tup (SqT.of upd_same) (((ha.mono l.f).mono (Sub.new (l3.s.none hp))).cut lo hi))⟩
      rw [← ha.length] at hw
      exact q _ F3 H3 (l1.trans l) (by rw [cut_all hw]; exact .tup (sqt_sub l.f hs) (ha.mono l.f))
abbrev rSlE (K : PySem.W.Frag) : V → Option Int → Option Int → Hp → VK → Prop := fun x lo hi H Q => rSlL K x lo hi H Q ∨ rSlA K x lo hi H Q
/-- a list or a tuple -/
theorem e_slE (h : Ev K te ρ d) (hd : itemsD d = some ds) (h1 : EvP tl ρ lo) (h2 : EvP th ρ hi) : EvR (tSl (rSlE K) te tl th) ρ (fun F v => ∃ e, itemsD e = some (cutD ds lo hi) ∧ Dat K F e v) := by
  cases d with
  | list xs => cases hd; exact fun F H σ s sl Q q => h F H σ s sl _ fun v F1 H1 l1 r1 => h1 F1 H1 σ l1.s (sl.mono l1.f) _ fun F2 H2 l2 => h2 F2 H2 σ l2.s (sl.mono (l1.f.trans l2.f)) _ fun F3 H3 l3 => .inl (by
      have l := l2.trans l3
      cases r1 with
      | lst hs ha => exact ⟨_, _, rfl, sql_sub (l.f.trans l3.s) hs, fun p hp => q (.ref p) (upd F3 p _) _ ((l1.trans l).trans (Le.new l3.s hp)) ⟨_, rfl, .lst (SqL.of upd_same) (((ha.mono l.f).mono (Sub.new (l3.s.none hp))).cut lo hi)⟩⟩)
  | tuple xs => cases hd; exact fun F H σ s sl Q q => h F H σ s sl _ fun v F1 H1 l1 r1 => h1 F1 H1 σ l1.s (sl.mono l1.f) _ fun F2 H2 l2 => h2 F2 H2 σ l2.s (sl.mono (l1.f.trans l2.f)) _ fun F3 H3 l3 => .inr (by
      have l := l2.trans l3
      cases r1 with
      | tup hs ha =>
        refine ⟨_, _, rfl, sqt_sub (l.f.trans l3.s) hs, fun hw => ?_, fun hw p hp => q (.ref p) (upd F3 p _) _ ((l1.trans l).trans (Le.new l3.s hp)) ⟨_, rfl, .tup (SqT.of upd_same) (((ha.mono l.f).mono (Sub.new (l3.s.none hp))).cut lo hi)⟩⟩
        rw [← ha.length] at hw
        exact q _ F3 H3 (l1.trans l) ⟨.tuple ds, by rw [cut_all hw]; rfl, .tup (sqt_sub l.f hs) (ha.mono l.f)⟩)
  | _ => cases hd
/-- x in e, e some list or tuple of these texts -/
theorem e_inE {neg : Bool} {xs : List Str} {x : Str} (ha : Ev K ta ρ (.str x)) (hb : EvR tb ρ (fun F v => ∃ e, itemsD e = some (xs.map PyData.str) ∧ Dat K F e v)) : Ev K (tOp (rIn K neg) ta tb) ρ (.bool (if neg then !decide (x ∈ xs) else decide (x ∈ xs))) := fun F H σ s sl Q q =>
  ha F H σ s sl _ fun u F1 H1 l1 r1 => hb F1 H1 σ l1.s (sl.mono l1.f) _ fun v F2 H2 l2 ⟨e, he, r2⟩ => by
    cases r1
    have fs := LK.flat_strs xs
    rw [← inD_str] at q
    cases r2 with
    | lst hs hA =>
      cases he
      obtain ⟨e2, f2⟩ := flat_vs hA fs
      refine ⟨_, _, rfl, .inl (sql_sub l2.s hs), rfl, f2, ?_⟩
      rw [e2]
      exact q _ F2 H2 (l1.trans l2) (.bl _)
    | tup hs hA =>
      cases he
      obtain ⟨e2, f2⟩ := flat_vs hA fs
      refine ⟨_, _, rfl, .inr (sqt_sub l2.s hs), rfl, f2, ?_⟩
      rw [e2]
      exact q _ F2 H2 (l1.trans l2) (.bl _)
    | _ => cases he
/-- tuple + tuple -/
theorem e_catT (ha : Ev K ta ρ (.tuple ds)) (hb : Ev K tb ρ (.tuple es)) (hz : ds.length + es.length ≤ sizeLine) : Ev K (tOp (rCatA K) ta tb) ρ (.tuple (ds ++ es)) :=
  e_op ha hb fun F H x y s rx ry Q q => by
    cases rx with
    | tup h1 a1 =>
      cases ry with
      | tup h2 a2 =>
        refine ⟨_, _, _, _, rfl, rfl, sqt_sub s h1, sqt_sub s h2, by rw [← a1.length, ← a2.length]; exact hz, fun e => ?_, fun _ e => ?_, fun _ _ p hp => q (.ref p) (upd F p _) _ (Le.new s hp) (.tup (SqT.of upd_same) ((a1.app a2).mono (Sub.new (s.none hp))))⟩
        · subst e
          cases a1
          exact q _ F H (Fr.refl s) (.tup h2 a2)
        · subst e
          cases a2
          rw [List.append_nil] at q
          exact q _ F H (Fr.refl s) (.tup h1 a1)
end
section
variable {X : Cx} {K : PySem.W.Frag}
theorem kk_slE (h : X.K = K) : SlR X (rSlE K) := by subst h; exact SlR.or sl_list sl_tupA
end
section
variable {K : PySem.W.Frag} {ρ : Ro} {ta tb : TE} {S : Addr → Prop} {J : JP}
/-- a != b, both flat in the sense of ==: some answer -/
theorem e_neX {Pd : PyData → Prop} (hP : ∀ d, Pd d → d.hasDict = false ∧ SeqAt.shaped d = true) (ha : EvR ta ρ (fun F v => ∃ d, Pd d ∧ Dat K F d v)) (hb : EvR tb ρ (fun F v => ∃ d, Pd d ∧ Dat K F d v)) : EvR (tOp (rNeD K) ta tb) ρ (fun F v => ∃ b, Dat K F (.bool b) v) := fun F H σ s sl Q q =>
  ha F H σ s sl _ fun x F1 H1 l1 ⟨da, pa, r1⟩ => hb F1 H1 σ l1.s (sl.mono l1.f) _ fun y F2 H2 l2 ⟨db, pb, r2⟩ =>
    ⟨da, db, dp_of l2.s (r1.mono l2.f) (hP da pa).1, dp_of l2.s r2 (hP db pb).1, (hP da pa).2, (hP db pb).2, q _ F2 H2 (l1.trans l2) ⟨_, .bl _⟩⟩
theorem e_isN {R0 : Hp → V → Prop} (ha : EvR ta ρ R0) : EvR (tOp (fun x y H Q => y = .non ∧ Q (.bl (decide (x = .non))) H) ta (tC .non)) ρ (fun F v => ∃ u, R0 F u ∧ v = .bl (decide (u = .non))) := fun F H σ s sl Q q =>
  ha F H σ s sl _ fun x F1 H1 l1 r1 => ⟨rfl, q _ F1 H1 l1 ⟨x, r1, rfl⟩⟩
end
section
variable {X : Cx} {P : Program} {w : World} {i o : Expr} {ty td : TE}
theorem kk_notinK (h1 : X.prog = P) (h2 : X.w = w) (hi : PE X i ty) (ho : PE X o td) : PC X .NotIn i o (tNotInK P w ty td) := by subst h1 h2; exact pc_notinK hi ho
end
/-! ### f(e, k = b) -/
def two {α : Type} : List α → List α → List α
  | [a], [b] => [a, b]
  | _, _ => []
/-- f's first parameter by place, its second by name -/
structure KOk (P : Program) (w : World) (K : PySem.W.Frag) (mg : Str → Option Value) (base : Heap) (CX : CXT) (k : Nat) (x : Str) (ps : List Str) (y : Str) (sp : Sp) : Prop where
  g : mg x = some (.ref (He.ga K x))
  kp : PySem.W.keepIn K (.ref (He.ga K x)) = true
  f : ∃ fd, FnOk P w K mg base CX k (He.ga K x) fd ps sp ∧ KBinds K fd ps [y] two two
theorem two_vals {vs : List V} {us : List Value} {zs : List V} {ws : List Value} (h : Vals vs us) (z : Vals zs ws) : Vals (two vs zs) (two us ws) := by
  cases h with
  | nil => exact .nil
  | cons a t =>
    cases t with
    | nil =>
      cases z with
      | nil => exact .nil
      | cons b t =>
        cases t with
        | nil => exact .cons a (.cons b .nil)
        | cons _ _ => exact .nil
    | cons _ _ => exact .nil
section
variable {X : Cx} {CX : CXT} {k : Nat} {x y : Str} {ps : List Str} {sp : Sp} {E : XK} {t tk : TA} {p pos : Pos} {e : Expr} {es : List Expr} {kws : List Keyword}
theorem pe_fnK (F : KOk X.prog X.w X.K X.mg X.base CX k x ps y sp) (hr : Room k X.A) (hx : Passes CX X E) (ha : PA X (e :: es) t) (hkw : PK X kws tk) (hg : Gl X x := by rfl)
    (hall : (backToKw pos (keywordEach kws X.env)).all (·.1.isSome) = true := by rfl) (hks : (backToKw pos (keywordEach kws X.env)).filterMap (·.1) = [y] := by rfl)
    (hdb : (x == ("__debug__" : Str)) = false := by decide) (he : starEach (e :: es) X.env = (false, eval e X.env) :: starEach es X.env := by rfl)
    (hpl : ((backTo pos (starEach (e :: es) X.env)).any (·.1) || (backToKw pos (keywordEach kws X.env)).any (·.1.isNone)) = false := by rfl) : PE X (.Call (.Name x p) (e :: es) kws pos) (tCallK sp two E t tk) := by
  obtain ⟨g, kp, fd, F1, b⟩ := F
  exact pe_callK F1 hr hg g kp b hx ha hkw hall hks hdb he hpl
end
end LK

set_option Elab.async false
set_option linter.all false
set_option maxRecDepth 100000
set_option maxHeartbeats 2000000
/-! LKU: evaluation that may change S, by data. -/
namespace LK
open PySem PySem.Spec PyProof.Rows L2
/-- from J: some data of which P tells, then J' -/
abbrev EvD (K : PySem.W.Frag) (S : Addr → Prop) (J J' : JP) (te : TE) (ρ : Ro) (P : PyData → Prop) : Prop := EvS S J te ρ (fun v F H => J' F H ∧ ∃ d, P d ∧ Dat K F d v)
abbrev EvDA (K : PySem.W.Frag) (S : Addr → Prop) (J J' : JP) (ta : TA) (ρ : Ro) (P : List PyData → Prop) : Prop := EvSA S J ta ρ (fun vs F H => J' F H ∧ ∃ ds, P ds ∧ DatA K F ds vs)
section
variable {K : PySem.W.Frag} {S : Addr → Prop} {J J1 J2 : JP} {te ta tb : TE} {tt : TT} {tr : TA} {ρ : Ro} {P Q1 : PyData → Prop} {Ps : List PyData → Prop}
theorem sd_of {d : PyData} (h : Ev K te ρ d) (c : Cl J) : EvD K S J J te ρ (fun e => e = d) := (EvS.of h c).imp fun v F H q => ⟨q.1, d, rfl, q.2⟩
theorem EvS.mono {R R' : V → JP} (h : EvS S J te ρ R) (i : ∀ v F H, R v F H → R' v F H) : EvS S J te ρ R' := h.imp i
theorem EvD.to {J3 : JP} {P' : PyData → Prop} (h : EvD K S J J1 te ρ P) (j : ∀ F H, J1 F H → J3 F H) (i : ∀ d, P d → P' d) : EvD K S J J3 te ρ P' := EvS.imp h fun v F H ⟨a, d, p, r⟩ => ⟨j F H a, d, i d p, r⟩
theorem EvDA.to {J3 : JP} {P' : List PyData → Prop} (h : EvDA K S J J1 tr ρ Ps) (j : ∀ F H, J1 F H → J3 F H) (i : ∀ d, Ps d → P' d) : EvDA K S J J3 tr ρ P' := fun F H σ s jj sl Q q => h F H σ s jj sl Q fun vs F2 H2 l ⟨a, ds, p, r⟩ => q vs F2 H2 l ⟨j F2 H2 a, ds, i ds p, r⟩
theorem da_nil : EvDA K S J J tNil ρ (fun ds => ds = []) := fun F H σ s j sl Q q => q [] F H (Fr.refl s) ⟨j, [], rfl, .nil⟩
theorem da_cons (h : EvD K S J J1 te ρ P) (hr : EvDA K S J1 J2 tr ρ Ps) : EvDA K S J J2 (tCons te tr) ρ (fun ds => ∃ d r, P d ∧ Ps r ∧ ds = d :: r) := fun F H σ s j sl Q q =>
  h F H σ s j sl _ fun v F1 H1 l1 ⟨j1, d, p, r1⟩ => hr F1 H1 σ l1.s j1 (sl.mono l1.f) _ fun vs F2 H2 l2 ⟨j2, ds, pd, r2⟩ => q _ F2 H2 (l1.trans l2) ⟨j2, d :: ds, ⟨d, ds, p, pd, rfl⟩, .cons (r1.mono l2.f) r2⟩
theorem da_of {ds : List PyData} (h : EvAD K tr ρ ds) (c : Cl J) : EvDA K S J J tr ρ (fun es => es = ds) := fun F H σ s j sl Q q => h F H σ s sl Q fun vs F2 H2 l r => q vs F2 H2 l.up ⟨c F H F2 H2 l j, ds, rfl, r⟩
theorem sd_lst (h : EvDA K S J J1 tr ρ Ps) (c : Cl J1) (hl : ∀ ds, Ps ds → ds.length ≤ sizeLine) : EvD K S J J1 (tLst tr) ρ (fun d => ∃ ds, Ps ds ∧ d = .list ds) := fun F H σ s j sl Q q =>
  h F H σ s j sl _ fun vs F1 H1 l1 ⟨j1, ds, p, r1⟩ => ⟨by rw [← r1.length]; exact hl ds p, fun a ha => q (.ref a) (upd F1 a (.lst vs)) _ (l1.trans (Le.new l1.s ha).up) ⟨c F1 H1 _ _ (Le.new l1.s ha) j1, _, ⟨ds, p, rfl⟩, .lst (SqL.of upd_same) (r1.mono (Sub.new (l1.s.none ha)))⟩⟩
theorem sd_tup (h : EvDA K S J J1 tr ρ Ps) (c : Cl J1) (hl : ∀ ds, Ps ds → ds.length ≤ sizeLine) : EvD K S J J1 (tTup tr) ρ (fun d => ∃ ds, Ps ds ∧ d = .tuple ds) := fun F H σ s j sl Q q =>
  h F H σ s j sl _ fun vs F1 H1 l1 ⟨j1, ds, p, r1⟩ => ⟨by rw [← r1.length]; exact hl ds p, fun a ha => q (.ref a) (upd F1 a (.tup vs)) _ (l1.trans (Le.new l1.s ha).up) ⟨c F1 H1 _ _ (Le.new l1.s ha) j1, _, ⟨ds, p, rfl⟩, .tup (SqT.of upd_same) (r1.mono (Sub.new (l1.s.none ha)))⟩⟩
/-- an operator whose answer is data, told from the data of its sides -/
theorem sd_op {r : R2} {Pz : PyData → Prop} (ha : EvD K S J J1 ta ρ P) (hb : EvD K S J1 J2 tb ρ Q1) (c : Cl J2) (hr : ∀ da db, P da → Q1 db → ∀ F H x y, Sub F H → Dat K F da x → Dat K F db y → ∀ Q : VK, (∀ dz v F2 H2, Le F H F2 H2 → Pz dz → Dat K F2 dz v → Q v H2) → r x y H Q) : EvD K S J J2 (tOp r ta tb) ρ Pz := fun F H σ s j sl Q q =>
  ha F H σ s j sl _ fun x F1 H1 l1 ⟨j1, da, pa, r1⟩ => hb F1 H1 σ l1.s j1 (sl.mono l1.f) _ fun y F2 H2 l2 ⟨j2, db, pb, r2⟩ => hr da db pa pb F2 H2 x y l2.s (r1.mono l2.f) r2 Q fun dz v F3 H3 l3 pz r3 => q v F3 H3 ((l1.trans l2).trans l3.up) ⟨c F2 H2 F3 H3 l3 j2, dz, pz, r3⟩
/-- .. of ints, comparing -/
theorem sd_cmp {r : R2} {g : Int → Int → Bool} {k : Int} (ha : EvD K S J J1 ta ρ P) (hb : Ev K tb ρ (.int k)) (hP : ∀ d, P d → ∃ i : Int, d = .int i) (c : Cl J1)
    (hr : ∀ (i j : Int) (H : Hp) (Q : VK), Q (.bl (g i j)) H → r (.int i) (.int j) H Q) : EvD K S J J1 (tOp r ta tb) ρ (fun d => ∃ i, P (.int i) ∧ d = .bool (g i k)) :=
  sd_op ha (sd_of hb c) c fun da db pa pb F H x y s rx ry Q q => by
    obtain ⟨i, rfl⟩ := hP da pa
    subst pb
    cases rx; cases ry
    exact hr i k H Q (q _ _ F H (Fr.refl s) ⟨i, pa, rfl⟩ (.bl _))
/-- a built-in on one thing -/
theorem sd_cb1 {r : List V → Hp → VK → Prop} {Pz : PyData → Prop} (h : EvD K S J J1 te ρ P) (c : Cl J1) (hr : ∀ d, P d → ∀ F H x, Sub F H → Dat K F d x → ∀ Q : VK, (∀ dz v F2 H2, Le F H F2 H2 → Pz dz → Dat K F2 dz v → Q v H2) → r [x] H Q) : EvD K S J J1 (tCB r (tCons te tNil)) ρ Pz := fun F H σ s j sl Q q =>
  h F H σ s j sl _ fun x F1 H1 l1 ⟨j1, d, p, r1⟩ => hr d p F1 H1 x l1.s r1 Q fun dz v F2 H2 l2 pz r2 => q v F2 H2 (l1.trans l2.up) ⟨c F1 H1 F2 H2 l2 j1, dz, pz, r2⟩
theorem sdb_test {b0 : PyData → Bool} (h : EvD K S J J1 te ρ P) (hP : ∀ d, P d → ∃ b, d = .bool b) : EvSB S J (tTest te) ρ (fun b F H => J1 F H ∧ P (.bool b)) := fun F H σ s j sl Q q =>
  h F H σ s j sl _ fun v F1 H1 l1 ⟨j1, d, p, r1⟩ => by
    obtain ⟨b, rfl⟩ := hP d p
    cases r1
    exact ⟨b, rfl, q b F1 H1 l1 ⟨j1, p⟩⟩
theorem sd_if {G : Bool → JP} (h : EvSB S J tt ρ G) (h1 : EvD K S (G true) J1 ta ρ P) (h2 : EvD K S (G false) J1 tb ρ P) : EvD K S J J1 (tIf tt ta tb) ρ P := fun F H σ s j sl Q q =>
  h F H σ s j sl _ fun b F1 H1 l1 g => by
    cases b with
    | true => exact h1 F1 H1 σ l1.s g (sl.mono l1.f) Q fun v F2 H2 l2 r2 => q v F2 H2 (l1.trans l2) r2
    | false => exact h2 F1 H1 σ l1.s g (sl.mono l1.f) Q fun v F2 H2 l2 r2 => q v F2 H2 (l1.trans l2) r2
theorem q_asgE {i : Nat} {u : TS} {Nx : Ro → JP} {R : V → JP} (h : EvD K S J J1 te ρ P) (k : ∀ d, P d → St S J1 u (ρ.set i (some (MP.d K d))) Nx R) : St S J (tSeq (tAsg te (gName i)) u) ρ Nx R :=
  q_asgS (α := { d : PyData // P d }) (m := fun d => MP.d K d.1) (G := fun _ => J1) h (fun v F H ⟨j, d, p, r⟩ => ⟨⟨d, p⟩, r, j⟩) fun d => k d.1 d.2
theorem s_retE {Nx : Ro → JP} {R : V → JP} (h : EvD K S J J1 te ρ P) (i : ∀ v F H d, J1 F H → P d → Dat K F d v → R v F H) : St S J (tRet te) ρ Nx R := s_retS (EvS.imp h fun v F H ⟨j, d, p, r⟩ => i v F H d j p r)
/-- a call of a def that changes S -/
theorem sd_call {α : Type} {n : Nat} {E : XK} {S' : α → Addr → Prop} {J' : α → JP} {pre : α → Hp → List V → Prop} {post : α → V → JP} (x : α) (h : EvDA K S J J1 tr ρ Ps) (hp : ∀ ds F H vs, Ps ds → DatA K F ds vs → J1 F H → vs.length = n ∧ J' x F H ∧ pre x F vs) (hS : ∀ a, S' x a → S a) (hq : ∀ v F H, post x v F H → J2 F H ∧ ∃ d, P d ∧ Dat K F d v) :
    EvD K S J J2 (tCall (spS n S' J' pre post) [] E tr) ρ P := EvS.imp (es_call x (fun F H σ s j sl Q q => h F H σ s j sl Q fun vs F2 H2 l ⟨j1, ds, p, r⟩ => q vs F2 H2 l (hp ds F2 H2 vs p r j1)) hS) hq
end
end LK

set_option Elab.async false
set_option linter.all false
set_option maxRecDepth 100000
set_option maxHeartbeats 2000000
/-! LKV: the laws' draw state (a dict that is changed), what its readings give. -/
namespace LK
open PySem PySem.Spec PyProof.Rows L2
def drK (G C : Addr) (r : Int) (t : Nat) : List (Key × V) := [(.inr "great", .ref G), (.inr "cells", .ref C), (.inr "rest", .int r), (.inr "turn", .int t)]
/-- at D the draw state, its list great at G; its turn is at most n -/
def DrAt (K : PySem.W.Frag) (D G : Addr) (n : Nat) : JP := fun F H => F D = none ∧ F G = none ∧ D ≠ G ∧ ∃ (gs cs : List Int) (r : Int) (t : Nat) (C : Addr), H D = some (.dK (drK G C r t)) ∧ H G = some (.lst (gs.map V.int)) ∧ Dat K F (.list (cs.map PyData.int)) (.ref C) ∧ cs.length ≤ 100000 ∧ t ≤ n
theorem cl_dr {K : PySem.W.Frag} {D G : Addr} {n : Nat} : Cl (DrAt K D G n) := fun F H F2 H2 l ⟨a, b, ne, gs, cs, r, t, C, h1, h2, h3, h4, h5⟩ => ⟨l.n D _ h1 a, l.n G _ h2 b, ne, gs, cs, r, t, C, l.h D _ h1 (fun z => z), l.h G _ h2 (fun z => z), h3.mono l.f, h4, h5⟩
theorem DrAt.le {K : PySem.W.Frag} {D G : Addr} {n m : Nat} {F H : Hp} (h : DrAt K D G n F H) (l : n ≤ m) : DrAt K D G m F H := by
  obtain ⟨a, b, ne, gs, cs, r, t, C, h1, h2, h3, h4, h5⟩ := h
  exact ⟨a, b, ne, gs, cs, r, t, C, h1, h2, h3, h4, Nat.le_trans h5 l⟩
abbrev SDr (D G : Addr) : Addr → Prop := fun a => a = D ∨ a = G
section
variable {K : PySem.W.Frag} {D G : Addr} {n m : Nat} {ρ : Ro} {i : Nat} {te : TE} {J : JP} {S : Addr → Prop} {u : TS} {Nx : Ro → JP} {R : V → JP} {P : PyData → Prop}
theorem dr_var (hi : ρ[i]? = some (some (MP.v (.ref D)))) {F : Hp} {σ : L2.St} (sl : SlOk F σ ρ) : σ[i]? = some (some (.ref D)) := by
  obtain ⟨v, e, r⟩ := sl.at_ i _ hi
  have r : v = .ref D := r
  rw [e, r]
theorem dr_turn (hi : ρ[i]? = some (some (MP.v (.ref D)))) : EvD K S (DrAt K D G n) (DrAt K D G n) (tDGet (tVar i) (tC (.str "turn"))) ρ (fun d => ∃ t : Nat, t ≤ n ∧ d = .int t) := fun F H σ s j sl Q q => by
  obtain ⟨a, b, ne, gs, cs, r, t, C, h1, h2, h3, h4, h5⟩ := id j
  exact ⟨.ref D, dr_var hi sl, D, .int t, rfl, DGet.k (k := .inr "turn") h1, q _ F H (Fr.refl s) ⟨j, _, ⟨t, h5, rfl⟩, .int _⟩⟩
theorem dr_rest (hi : ρ[i]? = some (some (MP.v (.ref D)))) : EvD K S (DrAt K D G n) (DrAt K D G n) (tDGet (tVar i) (tC (.str "rest"))) ρ (fun d => ∃ r : Int, d = .int r) := fun F H σ s j sl Q q => by
  obtain ⟨a, b, ne, gs, cs, r, t, C, h1, h2, h3, h4, h5⟩ := id j
  exact ⟨.ref D, dr_var hi sl, D, .int r, rfl, DGet.k (k := .inr "rest") h1, q _ F H (Fr.refl s) ⟨j, _, ⟨r, rfl⟩, .int _⟩⟩
theorem dr_cells (hi : ρ[i]? = some (some (MP.v (.ref D)))) : EvD K S (DrAt K D G n) (DrAt K D G n) (tDGet (tVar i) (tC (.str "cells"))) ρ (fun d => ∃ cs : List Int, cs.length ≤ 100000 ∧ d = .list (cs.map PyData.int)) := fun F H σ s j sl Q q => by
  obtain ⟨a, b, ne, gs, cs, r, t, C, h1, h2, h3, h4, h5⟩ := id j
  exact ⟨.ref D, dr_var hi sl, D, .ref C, rfl, DGet.k (k := .inr "cells") h1, q _ F H (Fr.refl s) ⟨j, _, ⟨cs, h4, rfl⟩, h3⟩⟩
theorem q_turn (hi : ρ[i]? = some (some (MP.v (.ref D)))) (h : EvD K (SDr D G) J (DrAt K D G n) te ρ (fun d => ∃ t : Nat, t ≤ m ∧ d = .int t)) (k : St (SDr D G) (DrAt K D G m) u ρ Nx R) : St (SDr D G) J (tSeq (sDPut (tVar i) (tC (.str "turn")) te) u) ρ Nx R := fun F H σ s j sl E hr hn =>
  h F H σ s j sl _ fun v F1 H1 l1 q0 => by
    obtain ⟨⟨a, b, ne, gs, cs, r, t, C, h1, h2, h3, h4, h5⟩, d, ⟨t', ht, rfl⟩, rv⟩ := q0
    cases rv
    have l2 := l1.trans (Fr.mut (S := SDr D G) (o := .dK (putK (drK G C r t) (.inr "turn") (.int t'))) l1.s a (.inl rfl))
    refine ⟨.ref D, dr_var hi (sl.mono l1.f), D, _, rfl, DPut.k (k := .inr "turn") h1 (by show 4 < sizeLine; decide), ?_⟩
    refine k F1 _ σ l2.s ⟨a, b, ne, gs, cs, r, t', C, upd_same, by rw [upd_ne (Ne.symm ne)]; exact h2, h3, h4, ht⟩ (sl.mono l1.f) E (fun v F2 H2 l r => hr v F2 H2 (l2.trans l) r) fun ρ' σ' F2 H2 l r => hn ρ' σ' F2 H2 (l2.trans l) r
theorem q_rest (hi : ρ[i]? = some (some (MP.v (.ref D)))) (h : EvD K (SDr D G) J (DrAt K D G n) te ρ (fun d => ∃ t : Int, d = .int t)) (k : St (SDr D G) (DrAt K D G n) u ρ Nx R) : St (SDr D G) J (tSeq (sDPut (tVar i) (tC (.str "rest")) te) u) ρ Nx R := fun F H σ s j sl E hr hn =>
  h F H σ s j sl _ fun v F1 H1 l1 q0 => by
    obtain ⟨⟨a, b, ne, gs, cs, r, t, C, h1, h2, h3, h4, h5⟩, d, ⟨r', rfl⟩, rv⟩ := q0
    cases rv
    have l2 := l1.trans (Fr.mut (S := SDr D G) (o := .dK (putK (drK G C r t) (.inr "rest") (.int r'))) l1.s a (.inl rfl))
    refine ⟨.ref D, dr_var hi (sl.mono l1.f), D, _, rfl, DPut.k (k := .inr "rest") h1 (by show 4 < sizeLine; decide), ?_⟩
    refine k F1 _ σ l2.s ⟨a, b, ne, gs, cs, r', t, C, upd_same, by rw [upd_ne (Ne.symm ne)]; exact h2, h3, h4, h5⟩ (sl.mono l1.f) E (fun v F2 H2 l r => hr v F2 H2 (l2.trans l) r) fun ρ' σ' F2 H2 l r => hn ρ' σ' F2 H2 (l2.trans l) r
theorem s_rest (hi : ρ[i]? = some (some (MP.v (.ref D)))) (h : EvD K (SDr D G) J (DrAt K D G n) te ρ (fun d => ∃ t : Int, d = .int t)) (k : ∀ F H, DrAt K D G n F H → Nx ρ F H) : St (SDr D G) J (sDPut (tVar i) (tC (.str "rest")) te) ρ Nx R := fun F H σ s j sl E hr hn =>
  q_rest (u := tNext) hi h (s_next k) F H σ s j sl E hr hn
/-- great != [] -/
theorem dr_ne (hi : ρ[i]? = some (some (MP.v (.ref D)))) : EvSB S (DrAt K D G n) (tTest (tOp (rNeD K) (tDGet (tVar i) (tC (.str "great"))) (tLst tNil))) ρ (fun b F H => DrAt K D G n F H ∧ (b = true → ∃ (g : Int) (gs : List Int), H G = some (.lst (V.int g :: gs.map V.int)) ∧ True)) := fun F H σ s j sl Q q => by
  obtain ⟨a, b, ne, gs, cs, r, t, C, h1, h2, h3, h4, h5⟩ := id j
  refine ⟨.ref D, dr_var hi sl, D, .ref G, rfl, DGet.k (k := .inr "great") h1, Nat.zero_le _, fun p hp => ?_⟩
  have l : Le F H (upd F p (.lst [])) (upd H p (.lst [])) := Le.new s hp
  have dp : ∀ gs : List Int, DpAll K (upd H p (.lst [])) (gs.map V.int) (gs.map PyData.int) := fun gs => by
    induction gs with
    | nil => exact .nil
    | cons g gs ih => exact .cons (.int g) ih
  have nod : ∀ gs : List Int, PyData.canLayAll0 (gs.map PyData.int) = true ∧ PyData.depthAll (gs.map PyData.int) ≤ 1 := fun gs => by
    induction gs with
    | nil => exact ⟨by simp [PyData.canLayAll0], by simp [PyData.depthAll]⟩
    | cons g gs ih => exact ⟨by simp [PyData.canLayAll0, PyData.canLay0, ih.1], by simp only [List.map_cons, PyData.depthAll, PyData.depth]; omega⟩
  have sh : SeqAt.shaped (.list (gs.map PyData.int)) = true := by
    have hd : PyData.depth (.list (gs.map PyData.int)) ≤ 64 := by
      have := (nod gs).2
      simp only [PyData.depth]
      omega
    have hc : PyData.canLay0 (.list (gs.map PyData.int)) = true := by
      simp only [PyData.canLay0]
      exact (nod gs).1
    unfold SeqAt.shaped
    rw [hc, decide_eq_true hd]
    rfl
  refine ⟨.list (gs.map PyData.int), .list [], .lst (SqL.of (by rw [upd_ne (ne_of_none h2 hp)]; exact h2)) (dp gs), .lst (SqL.of upd_same) .nil, sh, rfl, !PyData.eqv (.list (gs.map PyData.int)) (.list []), rfl, q (!PyData.eqv (.list (gs.map PyData.int)) (.list [])) (upd F p (.lst [])) (upd H p (.lst [])) l.up (And.intro (cl_dr F H _ _ l j) (fun hb => ?_))⟩
  cases gs with
  | nil => cases hb
  | cons g gs => exact ⟨g, gs, by rw [upd_ne (ne_of_none h2 hp)]; exact h2, trivial⟩
/-- great.pop(0) -/
theorem dr_pop (hi : ρ[i]? = some (some (MP.v (.ref D)))) : EvD K (SDr D G) (fun F H => DrAt K D G n F H ∧ ∃ (g : Int) (gs : List Int), H G = some (.lst (V.int g :: gs.map V.int)) ∧ True) (DrAt K D G n) (tBM K "list" rPopAt (tDGet (tVar i) (tC (.str "great"))) (tCons (tC (.int 0)) tNil)) ρ (fun d => ∃ r : Int, d = .int r) := fun F H σ s jj sl Q q => by
  obtain ⟨j, g, gs', hg, _⟩ := jj
  obtain ⟨a, b, ne, gs, cs, r, t, C, h1, h2, h3, h4, h5⟩ := id j
  refine ⟨.ref D, dr_var hi sl, D, .ref G, rfl, DGet.k (k := .inr "great") h1, .inl ⟨rfl, _, SqL.of hg⟩, G, _, 0, 0, .int g, rfl, rfl, hg, by decide, by decide, by simp [seqIndex?], rfl, ?_⟩
  refine q _ F _ (Fr.mut (S := SDr D G) s b (.inr rfl)) ⟨⟨a, b, ne, gs', cs, r, t, C, by rw [upd_ne ne]; exact h1, upd_same, h3, h4, h5⟩, _, ⟨g, rfl⟩, .int _⟩
end
end LK

set_option Elab.async false
set_option linter.all false
set_option maxRecDepth 100000
set_option maxHeartbeats 2000000
/-! LKW: promises of the laws' drawing defs; items and lengths of a list or a text; join; methods. -/
namespace LK
open PySem PySem.Spec PyProof.Rows L2
/-- a drawing def: its first parameter the draw state, the others data b of which Ok tells; at most c b takes -/
abbrev spDrw (K : PySem.W.Frag) (narg : Nat) (Ok : List PyData → Prop) (P : List PyData → PyData → Prop) (c : Nat) : Sp :=
  spS (α := (Addr × Addr × Nat) × List PyData) narg (fun x => SDr x.1.1 x.1.2.1) (fun x => DrAt K x.1.1 x.1.2.1 x.1.2.2) (fun x F vs => (x.1.2.2 + c < 2 ^ 40 ∧ Ok x.2 ∧ x.2.length + 1 = narg) ∧ ∃ r, vs = .ref x.1.1 :: r ∧ DatA K F x.2 r) (fun x v F H => DrAt K x.1.1 x.1.2.1 (x.1.2.2 + c) F H ∧ ∃ d, P x.2 d ∧ Dat K F d v)
section
variable {P : Program} {w : World} {K : PySem.W.Frag} {mg : Str → Option Value} {base : Heap} {x qual : Str} {params : Arguments} {body : List Stmt} {scope : Scope} {dvs : List V} {kws : List (Str × V)} {f : Addr} {fd : FuncData} {N ps : List Str} {k : Nat}
theorem okDr {narg : Nat} {Ok : List PyData → Prop} {Pz : List PyData → PyData → Prop} {c : Nat} (F : FunD K x qual params body scope dvs kws f fd) (Sc : FnScope N ps scope)
    (hb : ∀ (cdv : Value) (A : Around) (outer : List Env) (s : Shared) (H : Hp) (E : XK), Room k (A.deeper (envOfC qual scope s.heap.objs.size f cdv)) →
      ∃ t, PSs (cxOf CX0 P w K mg base N qual scope f cdv A outer s H E).nox body t ∧ ∀ (D G : Addr) (n : Nat) (b : List PyData), n + c < 2 ^ 40 → Ok b → b.length + 1 = narg → St (SDr D G) (DrAt K D G n) t (st0 N (MP.v (.ref D) :: b.map (MP.d K))) NoNx (fun v F H => DrAt K D G (n + c) F H ∧ ∃ d, Pz b d ∧ Dat K F d v)) (hn : ps.length = narg := by rfl) :
    FnOk P w K mg base CX0 (k + 1) f fd ps (spDrw K narg Ok Pz c) := by
  refine okS F Sc (fun x => MP.v (.ref x.1.1) :: x.2.map (MP.d K)) (fun x F vs hl hp => ?_) (fun cdv A outer s H E hr => ?_) hn
  · obtain ⟨_, r, rfl, hd⟩ := hp
    exact slok_mv (.cons rfl (Mv.data hd))
  · obtain ⟨t, h1, h2⟩ := hb cdv A outer s H E hr
    refine ⟨t, h1, ?_⟩
    rintro ⟨⟨D, G, n⟩, b⟩
    refine St.get (P := n + c < 2 ^ 40 ∧ Ok b ∧ b.length + 1 = narg) (fun ⟨hn, ho, hl⟩ => ?_) fun F H ⟨_, vs, hp⟩ => hp.1
    exact ((h2 D G n b hn ho hl).pre fun F H j => j.1).imp (fun _ _ _ r => r) fun _ _ _ z => z.elim
end
section
variable {K : PySem.W.Frag} {D G : Addr} {n c : Nat} {ρ : Ro} {i : Nat} {te ta tb : TE} {tr : TA} {J J1 : JP} {S : Addr → Prop} {P Pa : PyData → Prop} {E : XK}
/-- a drawing def called: draw(e, ..) -/
theorem sd_draw {narg : Nat} {Ok Pb : List PyData → Prop} {Pz : List PyData → PyData → Prop} (hi : ρ[i]? = some (some (MP.v (.ref D)))) (h : EvDA K (SDr D G) J (DrAt K D G n) tr ρ Pb) (hn : n + c < 2 ^ 40) (hb : ∀ b, Pb b → Ok b ∧ b.length + 1 = narg) (hp : ∀ b d, Pb b → Pz b d → P d) :
    EvD K (SDr D G) J (DrAt K D G (n + c)) (tCall (spDrw K narg Ok Pz c) [] E (tCons (tVar i) tr)) ρ P := fun F H σ s j sl Q q =>
  ⟨.ref D, dr_var hi sl, h F H σ s j sl _ fun vs F1 H1 l1 q0 => by
    obtain ⟨j1, b, pb, r⟩ := q0
    obtain ⟨h1, h2⟩ := hb b pb
    refine ⟨?_, ((D, G, n), b), F1, l1.s, j1, ⟨⟨hn, h1, h2⟩, vs, by rw [List.append_nil], r⟩, fun v F2 H2 l2 ⟨j2, d, pd, rd⟩ => q v F2 H2 (l1.trans l2) ⟨j2, d, hp b d pb pd, rd⟩⟩
    rw [List.append_nil, List.length_cons, ← r.length]
    exact h2⟩
/-- draw(): no other argument -/
theorem sd_draw0 {Ok : List PyData → Prop} {Pz : List PyData → PyData → Prop} (hi : ρ[i]? = some (some (MP.v (.ref D)))) (hn : n + c < 2 ^ 40) (ho : Ok []) : EvD K (SDr D G) (DrAt K D G n) (DrAt K D G (n + c)) (tCall (spDrw K 1 Ok Pz c) [] E (tCons (tVar i) tNil)) ρ (Pz []) :=
  sd_draw hi da_nil hn (fun b e => by subst e; exact ⟨ho, rfl⟩) fun b d e p => by subst e; exact p
/-- items of a list, signs of a text -/
def itemsP : PyData → Option (List PyData)
  | .list ds => some ds
  | .str x => some (signs x)
  | _ => none
abbrev rLenP (K : PySem.W.Frag) : List V → Hp → VK → Prop := fun xs H Q => (∃ p ys, xs = [.ref p] ∧ (SqL K H p ys ∨ SqT K H p ys) ∧ Q (.int ys.length) H) ∨ ∃ z, xs = [.str z] ∧ z.length ≤ sizeLine ∧ Q (.int z.length) H
theorem kk_lenP {X : Cx} (h : X.K = K) : CallR X (.builtin "len") (rLenP K) := by subst h; exact CallR.or call_len_seq call_len_str
abbrev rIxP (K : PySem.W.Frag) : R2 := fun x y H Q => rIxL K x y H Q ∨ rIxS x y H Q
theorem kk_ixP {X : Cx} (h : X.K = K) : IxR X (rIxP K) := by subst h; exact IxR.or ix_list ix_str
theorem e_lenP {d : PyData} {ds : List PyData} (h : Ev K te ρ d) (hd : itemsP d = some ds) (hz : ds.length ≤ sizeLine) : Ev K (tCB (rLenP K) (tCons te tNil)) ρ (.int ds.length) :=
  e_cb1 h fun F H v s r Q q => by
    cases r with
    | lst hs ha => cases hd; exact .inl ⟨_, _, rfl, .inl (sql_sub s hs), by rw [← ha.length]; exact q _ F H (Fr.refl s) (.int _)⟩
    | str x =>
      cases hd
      have e : (signs x).length = x.length := by unfold signs; rw [List.length_map]; rfl
      rw [e] at hz q
      exact .inr ⟨x, rfl, hz, q _ F H (Fr.refl s) (.int _)⟩
    | _ => cases hd
/-- some[take] -/
theorem sd_ixP {d : PyData} {ds : List PyData} (hs : Ev K ta ρ d) (hd : itemsP d = some ds) (hz : ds.length ≤ sizeLine) (c1 : Cl J1) (c0 : Cl J) (h : EvD K S J J1 tb ρ (fun e => ∃ k : Nat, k < ds.length ∧ e = .int k)) : EvD K S J J1 (tOp (rIxP K) ta tb) ρ (fun e => e ∈ ds) := fun F H σ s j sl Q q =>
  hs F H σ s sl _ fun x F1 H1 l1 r1 => h F1 H1 σ l1.s (c0 F H F1 H1 l1 j) (sl.mono l1.f) _ fun y F2 H2 l2 q0 => by
    obtain ⟨j2, e, ⟨k, hk, rfl⟩, r2⟩ := q0
    have dx := r1.mono l2.f
    have l := l1.up.trans l2
    cases r2
    cases dx with
    | lst hs' ha =>
      cases hd
      obtain ⟨v, hv, dv⟩ := ha.getD (List.getElem?_eq_getElem hk)
      exact .inl ⟨_, _, _, v, rfl, rfl, sql_sub l2.s hs', atI_nat hv, q v F2 H2 l ⟨j2, _, List.getElem_mem hk, dv⟩⟩
    | str x =>
      cases hd
      have hk2 : k < x.cps.toList.length := by unfold signs at hk; rw [List.length_map] at hk; exact hk
      have e : (signs x).length = x.length := by unfold signs; rw [List.length_map]; rfl
      refine .inr ⟨x, _, x.cps.toList[k], rfl, rfl, by rw [← e]; exact hz, atI_nat (List.getElem?_eq_getElem hk2), q _ F2 H2 l ⟨j2, _, List.mem_map.mpr ⟨_, List.getElem_mem hk2, rfl⟩, .str _⟩⟩
    | _ => cases hd
/-- int(e), e an int -/
theorem sd_int (h : EvD K S J J1 te ρ (fun d => ∃ k : Int, d = .int k)) (c1 : Cl J1) : EvD K S J J1 (tCB (fun xs H Q => (∃ i, xs = [.int i] ∧ Q (.int i) H) ∨ ∃ k, xs = [.bl k] ∧ Q (.int (if k then 1 else 0)) H) (tCons te tNil)) ρ (fun d => ∃ k : Int, d = .int k) :=
  sd_cb1 h c1 fun d hd F H x s r Q q => by
    obtain ⟨k, rfl⟩ := hd
    cases r
    exact .inl ⟨k, rfl, q _ _ F H (Fr.refl s) ⟨k, rfl⟩ (.int _)⟩
end
section
variable {X : Cx} {K : PySem.W.Frag} {o e : Expr} {es : List Expr} {to te : TE} {t : TA} {name : Str} {apos cpos pos : Pos} {T id : String} {r : V → List V → Hp → VK → Prop}
theorem kk_bm (h : X.K = K) (pa : PlainAttrs T) (slot : Slot T name id) (hty : typeOf (.builtin id) = pure (.type "method_descriptor")) (hm : MtR X id r) (ho : PE X o to) (ha : PA X (e :: es) t)
    (hbase : attributeBase o name X.env (eval o X.env) = eval o X.env := by rfl)
    (hfew : ((backTo cpos (starEach (e :: es) X.env)).all (fun x => !x.1) && (backToKw cpos (keywordEach [] X.env)).all (fun x => x.1.isSome)
      && decide ((e :: es).length + ([] : List Keyword).length + (if ([] : List Keyword).isEmpty then 0 else 1) < 30)) = true := by rfl)
    (hline : (apos.endLine == cpos.line) = true := by rfl) (hs : starEach (e :: es) X.env = (false, eval e X.env) :: starEach es X.env := by rfl) (hplain : (backTo cpos (starEach es X.env)).any (·.1) = false := by rfl) :
    PE X (.Call (.Attribute o name apos) (e :: es) [] cpos) (tBM K T r to t) := by subst h; exact pe_bm pa slot hty hm ho ha hbase hfew hline hs hplain
abbrev rJoin (K : PySem.W.Frag) : V → List V → Hp → VK → Prop := fun x xs H Q => ∃ a p, ∃ ys : List Str, x = .str a ∧ xs = [.ref p] ∧ (SqL K H p (ys.map V.str) ∨ SqT K H p (ys.map V.str)) ∧ (ys.map (·.length)).sum + ys.length * a.length ≤ 16777216 ∧ Q (.str (Txt.join a ys)) H
theorem kk_join (h : X.K = K) (ho : PE X o to) (he : PE X e te) (hs : starEach [e] X.env = [(false, eval e X.env)] := by rfl) (hbase : attributeBase o "join" X.env (eval o X.env) = eval o X.env := by rfl) (hline : (apos.endLine == pos.line) = true := by rfl) :
    PE X (.Call (.Attribute o "join" apos) [e] [] pos) (tM1 (rJoin K) to te) := by subst h; exact pe_join ho he hs hbase hline
end
section
variable {K : PySem.W.Frag} {S : Addr → Prop} {J J1 : JP} {wi : TI} {g : TG} {tb u : TS} {ρ ρL : Ro} {Nx : Ro → JP} {R : V → JP} {ns : List Nat} {up : PyData → Ro → Ro} {te : TE}
/-- the walked is one of some lists, told in a state of J, leaving J1 -/
def SrcD (K : PySem.W.Frag) (S : Addr → Prop) (J J1 : JP) (wi : TI) (ρ : Ro) {β : Type} (Py : β → Prop) (Dd : β → List PyData) : Prop := ∀ F H σ, Sub F H → J F H → SlOk F σ ρ → ∀ R : It → Hp → Prop, (∀ y T F2 H2, Py y → Fr S F H F2 H2 → J1 F2 H2 → Yl K F2 T (Dd y) → R T H2) → wi σ H R
theorem srcD_list {β : Type} {Py : β → Prop} {Dd : β → List PyData} (h : EvD K S J J1 te ρ (fun d => ∃ y, Py y ∧ d = .list (Dd y))) : SrcD K S J J1 (iList K te) ρ Py Dd := fun F H σ s j sl R q => h F H σ s j sl _ fun v F1 H1 l1 q0 => by
  obtain ⟨j1, d, ⟨y, py, rfl⟩, r1⟩ := q0
  cases r1 with
  | @lst a xs _ hs ha =>
    refine ⟨a, rfl, ⟨xs, sql_sub l1.s hs⟩, q y _ F1 H1 py l1 j1 ⟨fun F2 H2 e1 e2 i d hd => ?_, fun F2 H2 e1 e2 i d hd x H' y => ?_, fun F2 H2 e1 e2 => ?_⟩⟩
    · obtain ⟨v, hv, _⟩ := ha.getD hd
      exact ⟨xs, v, sql_sub (e1.trans e2) hs, hv⟩
    · obtain ⟨v, hv, dv⟩ := ha.getD hd
      obtain ⟨rfl, hx⟩ := y
      have e := hx xs (sql_sub (e1.trans e2) hs)
      rw [hv] at e
      cases e
      exact ⟨F2, Fr.refl e2, dv.mono e1⟩
    · exact ⟨xs, sql_sub (e1.trans e2) hs, by rw [ha.length]; exact Nat.le_refl _⟩
theorem q_forD {β : Type} {Py : β → Prop} {Dd : β → List PyData} (hs : SrcD K S J J1 wi ρ Py Dd) (hg : ∀ y, Py y → ∀ d ∈ Dd y, GtD K g d ns (up d)) (I : Nat → JP) (w0 : WeakL ρ ρL) (h0 : ∀ F H, J1 F H → I 0 F H) (cl : ∀ i, Cl (I i))
    (hb : ∀ y, Py y → ∀ i d, (Dd y)[i]? = some d → St S (I i) tb (up d ρL) (fun ρ2 F H => WeakL ρ2 ρL ∧ I (i + 1) F H) R) (k : ∀ y, Py y → St S (I (Dd y).length) u ρL Nx R) : St S J (tSeq (tFor wi g tb) u) ρ Nx R := fun F H σ s j sl D hr hn =>
  hs F H σ s j sl _ fun yy T F1 H1 py l1 j1 y => by
    have hg := hg yy py
    have hb := hb yy py
    have k := k yy py
    generalize Dd yy = ds at hg hb k y
    refine ⟨fun i m σ' H' => m = ds.length - i ∧ i ≤ ds.length ∧ ∃ F', Fr S F H F' H' ∧ Sub F1 F' ∧ I i F' H' ∧ SlOk F' σ' ρL, ⟨ds.length, by simp, Nat.zero_le _, F1, l1, Sub.refl F1, h0 F1 H1 j1, w0.ok (sl.mono l1.f)⟩, ?_⟩
    rintro i m σ' H' ⟨rfl, hi, F', l', sub, hI, sl'⟩
    by_cases hlt : i < ds.length
    · have hd : ds[i]? = some ds[i] := List.getElem?_eq_getElem hlt
      refine .inr ⟨y.go F' H' sub l'.s i _ hd, fun σ2 H2 => i + 1 ≤ ds.length ∧ ∃ F2, Fr S F H F2 H2 ∧ Sub F1 F2 ∧ I (i + 1) F2 H2 ∧ SlOk F2 σ2 ρL, fun σ2 H2 ⟨h1, h2⟩ => ⟨ds.length - (i + 1), by omega, rfl, h1, h2⟩, fun x H2 yl => ?_⟩
      obtain ⟨F2, l2, dx⟩ := y.yld F' H' sub l'.s i _ hd x H2 yl
      refine hg _ (List.mem_of_getElem? hd) F2 x σ' ρL H2 l2.s dx (sl'.mono l2.f) _ fun σ3 sl3 _ => ?_
      refine hb i _ hd F2 H2 σ3 l2.s (cl i F' H' F2 H2 l2 hI) sl3 _ (fun v F4 H4 l4 r4 => hr v F4 H4 ((l'.trans l2.up).trans l4) r4) fun ρ4 σ4 F4 H4 l4 ⟨w4, n4⟩ sl4 => ?_
      exact ⟨hlt, F4, (l'.trans l2.up).trans l4, (sub.trans l2.f).trans l4.f, n4, w4.ok sl4⟩
    · have e : i = ds.length := by omega
      subst e
      exact .inl ⟨y.stop F' H' sub l'.s, k F' H' σ' l'.s hI sl' D (fun v F2 H2 l r => hr v F2 H2 (l'.trans l) r) fun ρ' σ' F2 H2 l r => hn ρ' σ' F2 H2 (l'.trans l) r⟩
end
end LK

set_option Elab.async false
set_option linter.all false
set_option maxRecDepth 100000
set_option maxHeartbeats 2000000
/-! LKA: a new list that a def changes, given back at the end. -/
namespace LK
open PySem PySem.Spec PyProof.Rows L2
abbrev SOr (S : Addr → Prop) (L : Addr) : Addr → Prop := fun a => S a ∨ a = L
section
variable {K : PySem.W.Frag} {S : Addr → Prop} {J : JP} {te : TE} {u : TS} {ρ : Ro} {Nx : Ro → JP} {R : V → JP} {i : Nat}
theorem Fr.shrink {F H F1 H1 F2 H2 : Hp} {L : Addr} (l1 : Le F H F1 H1) (n : H L = none) (l2 : Fr (SOr S L) F1 H1 F2 H2) : Fr S F H F2 H2 :=
  ⟨l1.f.trans l2.f, l2.s, fun a o e ns => l2.h a o (l1.sub a o e) (fun z => z.elim ns (fun q => by subst q; rw [n] at e; cases e)), fun a o e f => l2.n a o (l1.sub a o e) (l1.n a o e f), fun a o e => l2.g a o (l1.sub a o e), fun z => l2.t (l1.t z)⟩
/-- x = []; the rest changes it, and gives it back -/
theorem q_newL {R' : Addr → V → JP} (c : Cl J) (k : ∀ L, (∃ F H, J F H ∧ H L = none) → St (SOr S L) (fun F H => J F H ∧ LsAt K L [] F H) u (ρ.set i (some (MP.v (.ref L)))) NoNx (R' L)) (hR : ∀ L v F H, Sub F H → R' L v F H → ∃ o, H L = some o ∧ (∀ ps, o ≠ .tbl ps) ∧ F L = none ∧ R v (upd F L o) H) :
    St S J (tSeq (tAsg (tLst tNil) (gName i)) u) ρ Nx R := fun F H σ s j sl E hr hn => ⟨Nat.zero_le _, fun L hL => by
  have l1 : Le F H F (upd H L (.lst [])) := Le.newM s hL
  refine k L ⟨F, H, j, hL⟩ F _ _ l1.s ⟨c F H F _ l1 j, [], s.none hL, upd_same, .nil⟩ (sl.set (m := MP.v (.ref L)) i rfl) _ (fun v F2 H2 l2 r2 => ?_) fun _ _ _ _ _ z => z.elim
  obtain ⟨o, h1, ho, h2, h3⟩ := hR L v F2 H2 l2.s r2
  exact hr v (upd F2 L o) H2 (Fr.freezeNew s (Fr.shrink l1 hL l2) hL h1 ho) h3⟩
/-- x.append(e), e some data told in the state, left in J1 -/
theorem s_app {J1 : JP} {L : Addr} {acc : List PyData} {P : PyData → Prop} (hi : ρ[i]? = some (some (MP.v (.ref L)))) (h : EvD K (SOr S L) J J1 te ρ P) (h0 : ∀ F H, J F H → ∃ xs, SqL K H L xs) (h1 : ∀ F H, J1 F H → LsAt K L acc F H) (hz : acc.length < sizeLine)
    (hn : ∀ d F H F2 H2, P d → Fr (SOr S L) F H F2 H2 → (∀ a o, a ≠ L → H a = some o → H2 a = some o) → J1 F H → LsAt K L (acc ++ [d]) F2 H2 → Nx ρ F2 H2) : St (SOr S L) J (tDrop (tBM K "list" rAppend (tVar i) (tCons te tNil))) ρ Nx R := fun F H σ s j sl E hr hnx => by
  obtain ⟨xs0, hx0⟩ := h0 F H j
  refine ⟨.ref L, dr_var hi sl, .inl ⟨rfl, xs0, hx0⟩, h F H σ s j sl _ fun v F1 H1 l1 q0 => ?_⟩
  obtain ⟨j1, d, pd, rv⟩ := q0
  obtain ⟨xs, a, b, c⟩ := h1 F1 H1 j1
  refine ⟨L, xs, v, rfl, rfl, b, by rw [← c.length]; exact hz, ?_⟩
  have l2 : Fr (SOr S L) F1 H1 F1 (upd H1 L (.lst (xs ++ [v]))) := Fr.mut l1.s a (.inr rfl)
  exact hnx ρ σ F1 _ (l1.trans l2) (hn d F1 H1 F1 _ pd l2 (fun a o ne e => by rw [upd_ne ne]; exact e) j1 ⟨_, a, upd_same, c.app (.cons rv .nil)⟩) (sl.mono l1.f)
/-- what changes S alone leaves the list at L -/
theorem ev_side {J1 : JP} {L : Addr} {acc : List PyData} {P : PyData → Prop} (h : EvD K S J J1 te ρ P) (nS : ¬ S L) : EvD K (SOr S L) (fun F H => J F H ∧ LsAt K L acc F H) (fun F H => J1 F H ∧ LsAt K L acc F H) te ρ P := fun F H σ s j sl Q q =>
  h F H σ s j.1 sl Q fun v F2 H2 l q0 => by
    obtain ⟨xs, a, b, c⟩ := j.2
    exact q v F2 H2 (l.weak fun a z => .inl z) ⟨⟨q0.1, xs, l.n L _ b a, l.h L _ b nS, c.mono l.f⟩, q0.2⟩
theorem dep_ls {L : Addr} {acc : List PyData} : Dep (SOr S L) (LsAt K L acc) := fun F H F2 H2 l h ⟨xs, a, b, c⟩ => by
  have x := h L _ (.inr rfl) b
  exact ⟨xs, x.2 a, x.1, c.mono l⟩
theorem Dep.up {S S' : Addr → Prop} {J : JP} (d : Dep S J) (h : ∀ a, S a → S' a) : Dep S' J := fun F H F2 H2 l x j => d F H F2 H2 l (fun a o z e => x a o (h a z) e) j
theorem Dep.and {S : Addr → Prop} {J J' : JP} (d : Dep S J) (d' : Dep S J') : Dep S (fun F H => J F H ∧ J' F H) := fun F H F2 H2 l x j => ⟨d F H F2 H2 l x j.1, d' F H F2 H2 l x j.2⟩
/-- the list at L as a value of the reading of x in / not in -/
theorem eb_inL {L : Addr} {xs : List Str} {x : Str} {neg : Bool} {i k : Nat} {J : JP} {S : Addr → Prop} {ρ : Ro} (hx : ρ[k]? = some (some (MP.d K (.str x)))) (hi : ρ[i]? = some (some (MP.v (.ref L)))) (hJ : ∀ F H, J F H → LsAt K L (xs.map PyData.str) F H) : EvSB S J (tTest (tOp (rIn K neg) (tVar k) (tVar i))) ρ (fun b F H => J F H ∧ b = if neg then !decide (x ∈ xs) else decide (x ∈ xs)) := fun F H σ s j sl Q q => by
  obtain ⟨v, e, r⟩ := sl.at_ k _ hx
  have r : Dat K F (.str x) v := r
  cases r
  obtain ⟨vs, a, b, c⟩ := hJ F H j
  obtain ⟨e2, f2⟩ := flat_vs c (LK.flat_strs xs)
  have q2 : inV (vD (.str x)) ((xs.map PyData.str).map vD) = decide (x ∈ xs) := inD_str
  refine ⟨.str x, e, .ref L, dr_var hi sl, L, vs, rfl, .inl (SqL.of b), rfl, f2, ?_⟩
  rw [e2, show V.str x = vD (.str x) from rfl, q2]
  exact ⟨_, rfl, q _ F H (Fr.refl s) ⟨j, rfl⟩⟩
end
end LK

set_option Elab.async false
set_option linter.all false
set_option maxRecDepth 100000
set_option maxHeartbeats 2000000
/-! LKN: a list comprehension whose new list is not frozen. -/
namespace LK
open PySem PySem.Spec PyProof.Rows L2
section
variable {K : PySem.W.Frag} {te : TE} {tt : TT} {ρ : Ro} {wi : TI} {g : TG} {ds : List PyData} {ns vs : List Nat} {up : PyData → Ro → Ro}
/-- a new list, its items as told, changed later -/
def EvNew (K : PySem.W.Frag) (te : TE) (ρ : Ro) (out : List PyData) : Prop := ∀ F H σ, Sub F H → SlOk F σ ρ → ∀ Q : VK, (∀ L F2 H2, Le F H F2 H2 → H L = none → LsAt K L out F2 H2 → Q (.ref L) H2) → te σ H Q
theorem n_lc (f : PyData → Bool) (h : PyData → PyData) (hs : Src K wi ρ ds) (hg : ∀ d, GtD K g d ns (up d)) (hv : ∀ i ∈ ns, i ∈ vs) (hz : ds.length < sizeLine)
    (ht : ∀ d ∈ ds, EvB tt (up d (wipeR ρ vs)) (f d)) (he : ∀ d ∈ ds, f d = true → Ev K te (up d (wipeR ρ vs)) (h d)) : EvNew K (tLc wi g tt te vs) ρ ((ds.filter f).map h) := by
  intro F H σ s sl Q q
  refine hs F H σ s sl _ fun T F1 H1 l1 y Dl hD => ?_
  have nF1 : F1 Dl = none := l1.s.none hD
  have nH : H Dl = none := by
    cases e : H Dl with
    | none => rfl
    | some o =>
      have := l1.sub Dl o e
      rw [hD] at this; cases this
  refine ⟨fun i m H' => m = ds.length - i ∧ i ≤ ds.length ∧ ∃ F' xs, Fr (· = Dl) F1 (upd H1 Dl (.lst [])) F' H' ∧ F' Dl = none ∧ H' Dl = some (.lst xs) ∧ DatA K F' (((ds.take i).filter f).map h) xs,
    ⟨ds.length, by simp, Nat.zero_le _, F1, [], Fr.refl (l1.s.mut nF1), nF1, upd_same, by simpa using DatA.nil⟩, ?_⟩
  rintro i m H' ⟨rfl, hi, F', xs, l', nF, hDl, hA⟩
  by_cases hlt : i < ds.length
  · have hd : ds[i]? = some ds[i] := List.getElem?_eq_getElem hlt
    have hm := List.mem_of_getElem? hd
    have st : ds.take (i + 1) = ds.take i ++ [ds[i]] := by rw [List.take_succ, hd]; rfl
    refine .inr ⟨y.go F' H' l'.f l'.s i _ hd, fun H2 => i + 1 ≤ ds.length ∧ ∃ F2 xs, Fr (· = Dl) F1 (upd H1 Dl (.lst [])) F2 H2 ∧ F2 Dl = none ∧ H2 Dl = some (.lst xs) ∧ DatA K F2 (((ds.take (i + 1)).filter f).map h) xs, fun H2 ⟨h1, h2⟩ => ⟨ds.length - (i + 1), by omega, rfl, h1, h2⟩, fun x H2 yl => ?_⟩
    obtain ⟨F2, l2, dx⟩ := y.yld F' H' l'.f l'.s i _ hd x H2 yl
    refine hg _ F2 x _ (wipeR ρ vs) H2 l2.s dx (((sl.mono l1.f).wipe vs).mono (l'.f.trans l2.f)) _ fun σ3 sl3 o3 => ⟨(wipe_out o3 hv).trans (wipe_wipe σ vs), ?_⟩
    refine ht _ hm F2 H2 σ3 l2.s sl3 _ fun F3 H3 l3 => ?_
    have l := l2.trans l3
    have d3 := l.h Dl _ hDl (fun z => z)
    have n3 := l.n Dl _ hDl nF
    have hA3 := hA.mono l.f
    cases e : f ds[i] with
    | false =>
      rw [if_neg Bool.false_ne_true]
      refine ⟨hlt, F3, xs, l'.trans l.up, n3, d3, ?_⟩
      rw [st, List.filter_append, show [ds[i]].filter f = [] from by simp [List.filter_cons, e], List.append_nil]
      exact hA3
    | true =>
      rw [if_pos rfl]
      refine he _ hm e F3 H3 σ3 l3.s (sl3.mono l3.f) _ fun v F4 H4 l4 r4 => ?_
      have d4 := l4.h Dl _ d3 (fun z => z)
      have n4 := l4.n Dl _ d3 n3
      have hA4 := hA3.mono l4.f
      refine ⟨xs, d4, ?_, hlt, F4, xs ++ [v], ((l'.trans l.up).trans l4.up).trans (Fr.mut l4.s n4 rfl), n4, upd_same, ?_⟩
      · rw [← hA4.length, List.length_map]
        exact Nat.lt_of_le_of_lt (List.length_filter_le _ _) (Nat.lt_of_le_of_lt (by rw [List.length_take]; exact Nat.min_le_right _ _) hz)
      · rw [st, List.filter_append, show [ds[i]].filter f = [ds[i]] from by simp [List.filter_cons, e], List.map_append]
        exact hA4.app (.cons r4 .nil)
  · have e : i = ds.length := by omega
    subst e
    rw [List.take_length] at hA
    refine .inl ⟨y.stop F' H' l'.f l'.s, q Dl F' H' ⟨l1.f.trans l'.f, l'.s, fun b o e _ => ?_, fun b o e n => ?_, fun b o e => ?_, fun z => l'.t (l1.t z)⟩ nH ⟨xs, nF, hDl, hA⟩⟩
    · have hne : b ≠ Dl := ne_of_none e nH
      exact l'.h b o (by rw [upd_ne hne]; exact l1.sub b o e) hne
    · have hne : b ≠ Dl := ne_of_none e nH
      exact l'.n b o (by rw [upd_ne hne]; exact l1.sub b o e) (l1.n b o e n)
    · have hne : b ≠ Dl := ne_of_none e nH
      exact l'.g b o (by rw [upd_ne hne]; exact l1.sub b o e)
end
end LK

set_option Elab.async false
set_option linter.all false
set_option maxRecDepth 100000
set_option maxHeartbeats 4000000
/-! LKF: a lambda without parameters handed to a def: all but the maker's own table stays (turned from the library's rule, whose end lets every table change). -/
namespace LK
open PySem PySem.Spec PyProof.Rows L2 LamX
/-- all but what stands at P stays -/
def ExtP (P : Addr) (H H' : Hp) : Prop := ∀ b o, b ≠ P → H b = some o → H' b = some o
abbrev lamO (X : Cx) (params : Arguments) (body : Expr) (scope : Scope) (pm : Value) (c' : Addr) (ctv : Value) : Obj := PySem.W.kla_obj "<lambda>" (X.env.qual ++ "<lambda>") params body scope (cloFrom X.env.cells scope.names []) pm c' ctv
section
variable {X : Cx} {pins : List (Addr × Obj)} {σ : L2.St} {H : Hp} {s : Shared}
theorem lam_mk {c P : Addr} {params : Arguments} {body : Expr} {scope : Scope} {pos : Pos} {E Q : Value → Shared → Prop} (I : Inv X pins σ H s) (TB : TabB X.base X.mg c P) (hcode : X.env.code = .ref c)
    (hT : TabS H P (X.env.qual ++ "<lambda>")) (hdef : defaultsOf params X.env = ([], [])) (hfree : ∀ y ∈ scope.names, y.2 = .free → ∃ c, X.env.cells.lookup y.1 = some c)
    (h : ∀ (f c' : Addr) (pm ctv : Value) (H1 : Hp) (s' : Shared), Inv X pins σ H1 s' → ExtP P H H1 → TabS H1 P (X.env.qual ++ "<lambda>") → s'.heap.get? f = some (lamO X params body scope pm c' ctv) → H1 f = none → f ∉ frs X.stack → H1 c' = some (CodeO c' (X.env.qual ++ "<lambda>")) → Q (.ref f) s') :
    wpAny (model X.prog X.w) X.A (eval (.Lambda params body scope pos) X.env) Q E s := by
  obtain ⟨ps, tP, tOk, tAll⟩ := hT
  have nofr : ∀ f, s.heap.objs.size ≤ f → f ∉ frs X.stack := fun f hf z => (List.mem_cons.mp (I.stkSub _ z)).elim (fun e => Nat.lt_irrefl _ (Nat.lt_of_lt_of_le (e ▸ I.lt) hf)) (fun e => I.nofs hf e)
  have bP : s.heap.BuiltinsAt X.mg P := TB.bm.keeps I.bk
  have oP : s.heap.get? P = some { cls := .none, data := .fields ps } := I.hok P _ tP
  have gl := I.mod.glob.keeps I.bk
  refine PySem.W.kla_eval hdef ?_
  rcases hc : codeAmong pos ps.toList with _ | cv
  · refine PySem.W.kla_makeFunction (mg := X.mg) (c := c) (P := P) (ps := ps) (closure_ok hfree) I.ok.glob gl hcode (TB.code.keeps I.bk) oP tOk hc TB.gP bP fun c' ctv h' tk hx hge hlt hrec htb => ?_
    obtain ⟨c2, oc, vs, t, e2, hoc, hd, hv⟩ := hrec
    cases e2
    have sz : s.heap.objs.size ≤ h'.objs.size := Nat.le_trans hge (Nat.le_of_lt hlt)
    have nC : H c' = none := I.hok.fresh hge
    have nPc : P ≠ c' := ne_of_none tP nC
    have J := inv_table (t' := tk) (more := #[rawInt pos.line, rawInt pos.col, .ref c']) (h' := h'.push (lamO X params body scope ((X.mg "__name__").getD .none) c' ctv)) I tP (fun b o hb e => Heap.get?_push_of_some _ (hx b o hb e)) (Heap.get?_push_of_some _ htb) hge ⟨oc, vs, t, Heap.get?_push_of_some _ hoc, hd, hv⟩
    have ext : ExtP P H (upd (upd H P (.tbl (ps ++ #[rawInt pos.line, rawInt pos.col, .ref c']))) c' (CodeO c' (X.env.qual ++ "<lambda>"))) := fun b o hb e => by rw [upd_ne (ne_of_none e nC), upd_ne hb]; exact e
    have eL : (ps ++ #[rawInt pos.line, rawInt pos.col, .ref c']).toList = ps.toList ++ [rawInt pos.line, rawInt pos.col, .ref c'] := by simp
    refine h h'.objs.size c' ((X.mg "__name__").getD .none) ctv _ _ J ext ⟨_, by rw [upd_ne nPc, upd_same], by rw [eL]; exact PySem.TriplesOk_snoc _ _ _ _ tOk, fun p' cv hcv => ?_⟩ (Heap.get?_push_size _ rfl) ?_ (nofr _ sz) upd_same
    · rw [eL] at hcv
      rcases among_app _ tOk hcv with z | z
      · obtain ⟨c0, e1, e2⟩ := tAll p' cv z
        exact ⟨c0, e1, ext _ _ (fun q => by rw [q, tP] at e2; exact codeO_ne _ (Option.some.inj e2).symm) e2⟩
      · exact ⟨c', z, upd_same⟩
    · rw [upd_ne (Nat.ne_of_gt hlt), upd_ne (Nat.ne_of_gt (Nat.lt_of_lt_of_le (Heap.lt_size oP) sz))]
      exact I.hok.fresh sz
  · obtain ⟨c', e, hco⟩ := tAll pos cv hc
    subst e
    refine PySem.W.kla_makeFunctionHit (mg := X.mg) (c := c) (P := P) (ps := ps) (closure_ok hfree) I.ok.glob gl hcode (TB.code.keeps I.bk) oP tOk hc bP fun ctv h' tk hx hsz => ?_
    have J : Inv X pins σ H { s with heap := h'.push (lamO X params body scope ((X.mg "__name__").getD .none) c' ctv), toks := tk } := I.kept fun b o e => Heap.get?_push_of_some _ (hx b o e)
    exact h h'.objs.size c' ((X.mg "__name__").getD .none) ctv H _ J (fun _ _ _ e => e) ⟨ps, tP, tOk, tAll⟩ (Heap.get?_push_size _ rfl) (I.hok.fresh hsz) (nofr _ hsz) hco
end
/-- x(lambda: ..): TT is what the def x makes of the lambda's reading -/
def tLamP (P : Addr) (q : Str) (TT : (XK → Hp → VK → Prop) → Hp → VK → Prop) (t : XK → TE) : TE := fun σ H Q => TabS H P q ∧ ∀ H1, ExtP P H H1 → TabS H1 P q → TT (fun E H' Q' => t E σ H' Q') H1 Q
section
variable {X : Cx}
theorem pe_lamP {q : Str} (hq : X.env.qual ++ "<lambda>" = q) {TT : (XK → Hp → VK → Prop) → Hp → VK → Prop} {x a : Str} {g c P : Addr} {k : Nat} {fd : FuncData} {pg : Arguments} {bg : List Stmt} {sg : Scope} {Ng : List Str} {params : Arguments} {body : Expr} {scope : Scope} {t : XK → TE} {p lpos pos : Pos}
    (hg : Gl X x) (hm : X.mg x = some (.ref g)) (F : FunD X.K x x pg bg sg [] [] g fd) (hb : L2.Binds X.K fd [a] []) (Sg : FnScope Ng [a] sg) (hNg : Ng[0]? = some a) (hva : Vis sg a)
    (hG : ∀ cdg, GivesTo X Ng x sg g cdg bg a q TT)
    (TB : TabB X.base X.mg c P) (hcode : X.env.code = .ref c) (hr : Room (k + 2) X.A) (L : LamS X.env.scope scope) (hdef : defaultsOf params X.env = ([], []))
    (hbind : ∀ (q : Str) (cl : List (Str × Addr)) (pm cv ctv : Value), bindArgs (PySem.W.kla_fn "<lambda>" q params body scope cl pm cv ctv) ⟨[], []⟩ = pure [])
    (hbody : ∀ (A : Around) (outer : List Env) (s : Shared) (H : Hp) (E : XK) (f c' : Addr), Room k (A.deeper (lamEnv X scope s.heap.objs.size f c')) → PE (lamCx X A outer s H E scope f c') body (t E))
    (hdb : (x == ("__debug__" : Str)) = false := by decide) (hd : (a == ("__debug__" : Str)) = false := by decide) (hcd : (a == ("__classdict__" : Str)) = false := by decide) :
    PE X (.Call (.Name x p) [.Lambda params body scope lpos] [] pos) (tLamP P q TT t) := by
  subst hq
  have hk := F.kp
  obtain ⟨oc, od, dV, kV, doc, pm, an, cdv, ct, osl, rfl, lk, hcg, _, _⟩ := F.ex
  refine ⟨fun pins s σ H Q I h => ?_⟩
  obtain ⟨hT, h⟩ := h
  refine wpAny_Call_Name_kw (ld_glob I hg hm ?_ hdb)
  refine PySem.W.callWith_K (h₀ := X.base) I.ok.mod.kin hk ?_ (by rfl) (by rfl)
  show wpAny _ _ (spliced ((false, eval (.Lambda params body scope lpos) X.env) :: backTo pos (starEach [] X.env))) _ _ s
  refine Calls.spliced_cons (lam_mk I TB hcode hT hdef (L.has I.ok) fun f c' pm' ctv H1 s' I1 eN T1 hf hfn hfr hco => Calls.spliced_nil ⟨I1.kIn, ?_⟩)
  have rc : codeAny (model X.prog X.w) X.A (.call (.ref g) ⟨[.ref f], []⟩) (L2.CR C8.CX0 X.stack X.prog X.w H1 s' Q C8.E0) s' :=
    run_ofS (N := Ng) (ps := [a]) (us := [.ref f]) (vs := [.ref f]) lk hcg Sg hr I1.env0 (hb s' [.ref f] I1.kIn rfl) (.cons rfl .nil) rfl fun hr' =>
      let ⟨t', ht', hq'⟩ := hG cdv f c' s' H1 Q (fun E H' Q' => t E σ H' Q') (fun W pn xe E p1 p2 tk hW => pe_act (i := 0) I1 L hf hfn hfr (hbind _ _ _ _ _) tk hW hr' (fun A outer s H hr2 => hbody A outer s H E f c' hr2) hNg hva hd hcd) hco (h H1 eN T1)
      ⟨t', ht'.nox, hq'⟩
  refine wpAny_call (codeAny_mono rc fun r s2 hq => ?_)
  rcases r with e | fl
  · exact (show False from hq).elim
  · cases fl with
    | ret u => exact I1.after hq
    | _ => exact False.elim hq
end
end LK

set_option Elab.async false
set_option linter.all false
set_option maxRecDepth 100000
set_option maxHeartbeats 0
/-! K47: the text: places, scopes, facts (printed by wip/mk.py). -/
namespace K47
open PySem PySem.Spec PyProof.Rows L2 LK
def top (i : Nat) : Stmt := PySem.Challenge.pw_latekeepers_k47_comparing_refused.main.body.getD i (.Pass ⟨0, 0, 0, 0⟩)
abbrev st_BadWord_init : Stmt := inClass (top 3) 0
abbrev nm_BadWord_init : List Str := ["self", "thing"]
theorem sc_BadWord_init : FnScope nm_BadWord_init ["self", "thing"] (defScope st_BadWord_init) := ⟨rfl, rfl, rfl, by decide +kernel, rfl, by decide +kernel, by decide +kernel⟩
def dd_BadWord_init : He.DefD := ⟨("BadWord", some "__init__"), "__init__", "BadWord.__init__", defArgs st_BadWord_init, defBody st_BadWord_init, defScope st_BadWord_init, [], []⟩
abbrev st_is_list : Stmt := top 11
abbrev nm_is_list : List Str := ["value"]
theorem sc_is_list : FnScope nm_is_list ["value"] (defScope st_is_list) := ⟨rfl, rfl, rfl, by decide +kernel, rfl, by decide +kernel, by decide +kernel⟩
def dd_is_list : He.DefD := ⟨("is_list", none), "is_list", "is_list", defArgs st_is_list, defBody st_is_list, defScope st_is_list, [], []⟩
abbrev st_is_number : Stmt := top 12
abbrev nm_is_number : List Str := ["value"]
theorem sc_is_number : FnScope nm_is_number ["value"] (defScope st_is_number) := ⟨rfl, rfl, rfl, by decide +kernel, rfl, by decide +kernel, by decide +kernel⟩
def dd_is_number : He.DefD := ⟨("is_number", none), "is_number", "is_number", defArgs st_is_number, defBody st_is_number, defScope st_is_number, [], []⟩
abbrev st_is_word : Stmt := top 13
abbrev nm_is_word : List Str := ["value", "letter"]
theorem sc_is_word : FnScope nm_is_word ["value"] (defScope st_is_word) := ⟨rfl, rfl, rfl, by decide +kernel, rfl, by decide +kernel, by decide +kernel⟩
def dd_is_word : He.DefD := ⟨("is_word", none), "is_word", "is_word", defArgs st_is_word, defBody st_is_word, defScope st_is_word, [], []⟩
abbrev st_thing_conditions : Stmt := top 18
abbrev nm_thing_conditions : List Str := ["thing", "wants", "wish", "is_going", "is_held", "found"]
theorem sc_thing_conditions : FnScope nm_thing_conditions ["thing", "wants"] (defScope st_thing_conditions) := ⟨rfl, rfl, rfl, by decide +kernel, rfl, by decide +kernel, by decide +kernel⟩
def dd_thing_conditions : He.DefD := ⟨("thing_conditions", none), "thing_conditions", "thing_conditions", defArgs st_thing_conditions, defBody st_thing_conditions, defScope st_thing_conditions, [], []⟩
abbrev st_own_conditions : Stmt := top 19
abbrev nm_own_conditions : List Str := ["thing", "own"]
theorem sc_own_conditions : FnScope nm_own_conditions ["thing", "own"] (defScope st_own_conditions) := ⟨rfl, rfl, rfl, by decide +kernel, rfl, by decide +kernel, by decide +kernel⟩
def dd_own_conditions : He.DefD := ⟨("own_conditions", none), "own_conditions", "own_conditions", defArgs st_own_conditions, defBody st_own_conditions, defScope st_own_conditions, [], []⟩
abbrev st_held_for : Stmt := top 20
abbrev nm_held_for : List Str := ["view", "wants", "thing", "own", "other", "stray", "found"]
theorem sc_held_for : FnScope nm_held_for ["view", "wants"] (defScope st_held_for) := ⟨rfl, rfl, rfl, by decide +kernel, rfl, by decide +kernel, by decide +kernel⟩
def dd_held_for : He.DefD := ⟨("held_for", none), "held_for", "held_for", defArgs st_held_for, defBody st_held_for, defScope st_held_for, [], []⟩
abbrev st_things_of : Stmt := top 22
abbrev nm_things_of : List Str := ["words", "word", "is_going", "is_held"]
theorem sc_things_of : FnScope nm_things_of ["words"] (defScope st_things_of) := ⟨rfl, rfl, rfl, by decide +kernel, rfl, by decide +kernel, by decide +kernel⟩
def dd_things_of : He.DefD := ⟨("things_of", none), "things_of", "things_of", defArgs st_things_of, defBody st_things_of, defScope st_things_of, [], []⟩
abbrev st_views_of : Stmt := top 23
abbrev nm_views_of : List Str := ["words", "owns", "word", "thing", "own", "other", "stray"]
theorem sc_views_of : FnScope nm_views_of ["words"] (defScope st_views_of) := ⟨rfl, rfl, rfl, by decide +kernel, rfl, by decide +kernel, by decide +kernel⟩
def dd_views_of : He.DefD := ⟨("views_of", none), "views_of", "views_of", defArgs st_views_of, defBody st_views_of, defScope st_views_of, [], []⟩
abbrev st_are_different : Stmt := top 31
abbrev nm_are_different : List Str := ["things", "some", "one"]
theorem sc_are_different : FnScope nm_are_different ["things", "some"] (defScope st_are_different) := ⟨rfl, rfl, rfl, by decide +kernel, rfl, by decide +kernel, by decide +kernel⟩
def dd_are_different : He.DefD := ⟨("are_different", none), "are_different", "are_different", defArgs st_are_different, defBody st_are_different, defScope st_are_different, [], []⟩
abbrev st_is_deed : Stmt := top 32
abbrev nm_is_deed : List Str := ["value"]
theorem sc_is_deed : FnScope nm_is_deed ["value"] (defScope st_is_deed) := ⟨rfl, rfl, rfl, by decide +kernel, rfl, by decide +kernel, by decide +kernel⟩
def dd_is_deed : He.DefD := ⟨("is_deed", none), "is_deed", "is_deed", defArgs st_is_deed, defBody st_is_deed, defScope st_is_deed, [], []⟩
abbrev st_is_rule : Stmt := top 33
abbrev nm_is_rule : List Str := ["value", "sight", "deed", "checks"]
theorem sc_is_rule : FnScope nm_is_rule ["value"] (defScope st_is_rule) := ⟨rfl, rfl, rfl, by decide +kernel, rfl, by decide +kernel, by decide +kernel⟩
def dd_is_rule : He.DefD := ⟨("is_rule", none), "is_rule", "is_rule", defArgs st_is_rule, defBody st_is_rule, defScope st_is_rule, [], []⟩
abbrev st_are_wants : Stmt := top 34
abbrev nm_are_wants : List Str := ["value", "word"]
theorem sc_are_wants : FnScope nm_are_wants ["value"] (defScope st_are_wants) := ⟨rfl, rfl, rfl, by decide +kernel, rfl, by decide +kernel, by decide +kernel⟩
def dd_are_wants : He.DefD := ⟨("are_wants", none), "are_wants", "are_wants", defArgs st_are_wants, defBody st_are_wants, defScope st_are_wants, [], []⟩
abbrev st_Keeper_init : Stmt := inClass (top 35) 0
abbrev nm_Keeper_init : List Str := ["self", "name", "wants", "rules", "at", "rule", "sight", "deed", "checks"]
theorem sc_Keeper_init : FnScope nm_Keeper_init ["self", "name", "wants", "rules"] (defScope st_Keeper_init) := ⟨rfl, rfl, rfl, by decide +kernel, rfl, by decide +kernel, by decide +kernel⟩
def dd_Keeper_init : He.DefD := ⟨("Keeper", some "__init__"), "__init__", "Keeper.__init__", defArgs st_Keeper_init, defBody st_Keeper_init, defScope st_Keeper_init, [], []⟩
abbrev st_Keeper_name : Stmt := inClass (top 35) 1
abbrev nm_Keeper_name : List Str := ["self"]
theorem sc_Keeper_name : FnScope nm_Keeper_name ["self"] (defScope st_Keeper_name) := ⟨rfl, rfl, rfl, by decide +kernel, rfl, by decide +kernel, by decide +kernel⟩
def dd_Keeper_name : He.DefD := ⟨("Keeper", some "name"), "name", "Keeper.name", defArgs st_Keeper_name, defBody st_Keeper_name, defScope st_Keeper_name, [], []⟩
abbrev st_Keeper_wants : Stmt := inClass (top 35) 2
abbrev nm_Keeper_wants : List Str := ["self"]
theorem sc_Keeper_wants : FnScope nm_Keeper_wants ["self"] (defScope st_Keeper_wants) := ⟨rfl, rfl, rfl, by decide +kernel, rfl, by decide +kernel, by decide +kernel⟩
def dd_Keeper_wants : He.DefD := ⟨("Keeper", some "wants"), "wants", "Keeper.wants", defArgs st_Keeper_wants, defBody st_Keeper_wants, defScope st_Keeper_wants, [], []⟩
abbrev st_Keeper_rules : Stmt := inClass (top 35) 3
abbrev nm_Keeper_rules : List Str := ["self"]
theorem sc_Keeper_rules : FnScope nm_Keeper_rules ["self"] (defScope st_Keeper_rules) := ⟨rfl, rfl, rfl, by decide +kernel, rfl, by decide +kernel, by decide +kernel⟩
def dd_Keeper_rules : He.DefD := ⟨("Keeper", some "rules"), "rules", "Keeper.rules", defArgs st_Keeper_rules, defBody st_Keeper_rules, defScope st_Keeper_rules, [], []⟩
abbrev st_Keeper_len : Stmt := inClass (top 35) 4
abbrev nm_Keeper_len : List Str := ["self"]
theorem sc_Keeper_len : FnScope nm_Keeper_len ["self"] (defScope st_Keeper_len) := ⟨rfl, rfl, rfl, by decide +kernel, rfl, by decide +kernel, by decide +kernel⟩
def dd_Keeper_len : He.DefD := ⟨("Keeper", some "__len__"), "__len__", "Keeper.__len__", defArgs st_Keeper_len, defBody st_Keeper_len, defScope st_Keeper_len, [], []⟩
abbrev st_Keeper_decided : Stmt := inClass (top 35) 8
abbrev nm_Keeper_decided : List Str := ["self", "view", "known", "at", "rule", "condition"]
theorem sc_Keeper_decided : FnScope nm_Keeper_decided ["self", "view"] (defScope st_Keeper_decided) := ⟨rfl, rfl, rfl, by decide +kernel, rfl, by decide +kernel, by decide +kernel⟩
def dd_Keeper_decided : He.DefD := ⟨("Keeper", some "decided"), "decided", "Keeper.decided", defArgs st_Keeper_decided, defBody st_Keeper_decided, defScope st_Keeper_decided, [], []⟩
abbrev st_need_words : Stmt := top 38
abbrev nm_need_words : List Str := ["words", "at", "word"]
theorem sc_need_words : FnScope nm_need_words ["words"] (defScope st_need_words) := ⟨rfl, rfl, rfl, by decide +kernel, rfl, by decide +kernel, by decide +kernel⟩
def dd_need_words : He.DefD := ⟨("need_words", none), "need_words", "need_words", defArgs st_need_words, defBody st_need_words, defScope st_need_words, [], []⟩
abbrev st_all_views : Stmt := top 39
abbrev nm_all_views : List Str := ["words"]
theorem sc_all_views : FnScope nm_all_views ["words"] (defScope st_all_views) := ⟨rfl, rfl, rfl, by decide +kernel, rfl, by decide +kernel, by decide +kernel⟩
def dd_all_views : He.DefD := ⟨("all_views", none), "all_views", "all_views", defArgs st_all_views, defBody st_all_views, defScope st_all_views, [], []⟩
abbrev st_table_of : Stmt := top 40
abbrev nm_table_of : List Str := ["keeper", "words", "view"]
theorem sc_table_of : FnScope nm_table_of ["keeper", "words"] (defScope st_table_of) := ⟨rfl, rfl, rfl, by decide +kernel, rfl, by decide +kernel, by decide +kernel⟩
def dd_table_of : He.DefD := ⟨("table_of", none), "table_of", "table_of", defArgs st_table_of, defBody st_table_of, defScope st_table_of, [], []⟩
abbrev st_choice : Stmt := top 41
abbrev nm_choice : List Str := ["keeper", "view", "at"]
theorem sc_choice : FnScope nm_choice ["keeper", "view"] (defScope st_choice) := ⟨rfl, rfl, rfl, by decide +kernel, rfl, by decide +kernel, by decide +kernel⟩
def dd_choice : He.DefD := ⟨("choice", none), "choice", "choice", defArgs st_choice, defBody st_choice, defScope st_choice, [], []⟩
abbrev st_parted : Stmt := top 42
abbrev nm_parted : List Str := ["one", "other", "words", "view"]
theorem sc_parted : FnScope nm_parted ["one", "other", "words"] (defScope st_parted) := ⟨rfl, rfl, rfl, by decide +kernel, rfl, by decide +kernel, by decide +kernel⟩
def dd_parted : He.DefD := ⟨("parted", none), "parted", "parted", defArgs st_parted, defBody st_parted, defScope st_parted, [], []⟩
abbrev st_idle : Stmt := top 43
abbrev nm_idle : List Str := ["keeper", "words", "found", "view", "at"]
theorem sc_idle : FnScope nm_idle ["keeper", "words"] (defScope st_idle) := ⟨rfl, rfl, rfl, by decide +kernel, rfl, by decide +kernel, by decide +kernel⟩
def dd_idle : He.DefD := ⟨("idle", none), "idle", "idle", defArgs st_idle, defBody st_idle, defScope st_idle, [], []⟩
abbrev st_trimmed : Stmt := top 44
abbrev nm_trimmed : List Str := ["keeper", "words", "found", "at", "fewer"]
theorem sc_trimmed : FnScope nm_trimmed ["keeper", "words"] (defScope st_trimmed) := ⟨rfl, rfl, rfl, by decide +kernel, rfl, by decide +kernel, by decide +kernel⟩
def dd_trimmed : He.DefD := ⟨("trimmed", none), "trimmed", "trimmed", defArgs st_trimmed, defBody st_trimmed, defScope st_trimmed, [], []⟩
abbrev st_law_begun : Stmt := top 46
abbrev nm_law_begun : List Str := ["_law_script", "_law_cells", "_law_cell"]
theorem sc_law_begun : FnScope nm_law_begun ["_law_script"] (defScope st_law_begun) := ⟨rfl, rfl, rfl, by decide +kernel, rfl, by decide +kernel, by decide +kernel⟩
def dd_law_begun : He.DefD := ⟨("_law_begun", none), "_law_begun", "_law_begun", defArgs st_law_begun, defBody st_law_begun, defScope st_law_begun, [], []⟩
abbrev st_law_mixed : Stmt := top 47
abbrev nm_law_mixed : List Str := ["_law_draw", "_law_turn", "_law_found", "_law_cell", "_law_lap"]
theorem sc_law_mixed : FnScope nm_law_mixed ["_law_draw"] (defScope st_law_mixed) := ⟨rfl, rfl, rfl, by decide +kernel, rfl, by decide +kernel, by decide +kernel⟩
def dd_law_mixed : He.DefD := ⟨("_law_mixed", none), "_law_mixed", "_law_mixed", defArgs st_law_mixed, defBody st_law_mixed, defScope st_law_mixed, [], []⟩
abbrev st_law_take : Stmt := top 48
abbrev nm_law_take : List Str := ["_law_draw", "_law_many", "_law_found"]
theorem sc_law_take : FnScope nm_law_take ["_law_draw", "_law_many"] (defScope st_law_take) := ⟨rfl, rfl, rfl, by decide +kernel, rfl, by decide +kernel, by decide +kernel⟩
def dd_law_take : He.DefD := ⟨("_law_take", none), "_law_take", "_law_take", defArgs st_law_take, defBody st_law_take, defScope st_law_take, [], []⟩
abbrev st_law_pick : Stmt := top 49
abbrev nm_law_pick : List Str := ["_law_draw", "_law_some"]
theorem sc_law_pick : FnScope nm_law_pick ["_law_draw", "_law_some"] (defScope st_law_pick) := ⟨rfl, rfl, rfl, by decide +kernel, rfl, by decide +kernel, by decide +kernel⟩
def dd_law_pick : He.DefD := ⟨("_law_pick", none), "_law_pick", "_law_pick", defArgs st_law_pick, defBody st_law_pick, defScope st_law_pick, [], []⟩
abbrev st_law_word : Stmt := top 50
abbrev nm_law_word : List Str := ["_law_draw", "_law_letters", "_law_long", "_law_lap"]
theorem sc_law_word : FnScope nm_law_word ["_law_draw"] (defScope st_law_word) := ⟨rfl, rfl, rfl, by decide +kernel, rfl, by decide +kernel, by decide +kernel⟩
def dd_law_word : He.DefD := ⟨("_law_word", none), "_law_word", "_law_word", defArgs st_law_word, defBody st_law_word, defScope st_law_word, [], []⟩
abbrev st_law_words : Stmt := top 51
abbrev nm_law_words : List Str := ["_law_draw", "_law_many", "_law_found", "_law_turn", "_law_word_here", "_law_spare"]
theorem sc_law_words : FnScope nm_law_words ["_law_draw", "_law_many"] (defScope st_law_words) := ⟨rfl, rfl, rfl, by decide +kernel, rfl, by decide +kernel, by decide +kernel⟩
def dd_law_words : He.DefD := ⟨("_law_words", none), "_law_words", "_law_words", defArgs st_law_words, defBody st_law_words, defScope st_law_words, [], []⟩
abbrev st_law_any_rule : Stmt := top 54
abbrev nm_law_any_rule : List Str := ["_law_draw", "_law_some", "_law_known_here", "_law_sight", "_law_word_here", "_law_checks", "_law_one", "_law_part"]
theorem sc_law_any_rule : FnScope nm_law_any_rule ["_law_draw", "_law_some"] (defScope st_law_any_rule) := ⟨rfl, rfl, rfl, by decide +kernel, rfl, by decide +kernel, by decide +kernel⟩
def dd_law_any_rule : He.DefD := ⟨("_law_any_rule", none), "_law_any_rule", "_law_any_rule", defArgs st_law_any_rule, defBody st_law_any_rule, defScope st_law_any_rule, [], []⟩
abbrev st_law_refusal : Stmt := top 57
abbrev nm_law_refusal : List Str := ["_law_work", "_law_caught", "error"]
theorem sc_law_refusal : FnScope nm_law_refusal ["_law_work"] (defScope st_law_refusal) := ⟨rfl, rfl, rfl, by decide +kernel, rfl, by decide +kernel, by decide +kernel⟩
def dd_law_refusal : He.DefD := ⟨("_law_refusal", none), "_law_refusal", "_law_refusal", defArgs st_law_refusal, defBody st_law_refusal, defScope st_law_refusal, [], []⟩
abbrev st_law_is_plain_word : Stmt := top 58
abbrev nm_law_is_plain_word : List Str := ["_law_thing", "_law_letter"]
theorem sc_law_is_plain_word : FnScope nm_law_is_plain_word ["_law_thing"] (defScope st_law_is_plain_word) := ⟨rfl, rfl, rfl, by decide +kernel, rfl, by decide +kernel, by decide +kernel⟩
def dd_law_is_plain_word : He.DefD := ⟨("_law_is_plain_word", none), "_law_is_plain_word", "_law_is_plain_word", defArgs st_law_is_plain_word, defBody st_law_is_plain_word, defScope st_law_is_plain_word, [], []⟩
abbrev st_law_due : Stmt := top 59
abbrev nm_law_due : List Str := ["_law_some", "_law_at", "_law_word_here"]
theorem sc_law_due : FnScope nm_law_due ["_law_some"] (defScope st_law_due) := ⟨rfl, rfl, rfl, by decide +kernel, rfl, by decide +kernel, by decide +kernel⟩
def dd_law_due : He.DefD := ⟨("_law_due", none), "_law_due", "_law_due", defArgs st_law_due, defBody st_law_due, defScope st_law_due, [], []⟩
abbrev st_law : Stmt := top 60
abbrev nm_law : List Str := ["_law_script", "_law_draw", "_law_turn", "_law_odd", "_law_pool", "_law_some", "_law_made", "_law_due_here", "_law_shown", "_law_found", "_law_word_here"]
theorem sc_law : FnScope nm_law ["_law_script"] (defScope st_law) := ⟨rfl, rfl, rfl, by decide +kernel, rfl, by decide +kernel, by decide +kernel⟩
def dd_law : He.DefD := ⟨("law", none), "law", "law", defArgs st_law, defBody st_law, defScope st_law, [], []⟩
def fn : List He.DefD := [dd_BadWord_init, dd_is_list, dd_is_number, dd_is_word, dd_thing_conditions, dd_own_conditions, dd_held_for, dd_things_of, dd_views_of, dd_are_different, dd_is_deed, dd_is_rule, dd_are_wants, dd_Keeper_init, dd_Keeper_len, dd_Keeper_decided, dd_need_words, dd_all_views, dd_table_of, dd_choice, dd_parted, dd_idle, dd_trimmed, dd_law_begun, dd_law_mixed, dd_law_take, dd_law_pick, dd_law_word, dd_law_words, dd_law_any_rule, dd_law_refusal, dd_law_is_plain_word, dd_law_due, dd_law]
def gs : List GetD := [⟨"Keeper", "name", dd_Keeper_name⟩, ⟨"Keeper", "wants", dd_Keeper_wants⟩, ⟨"Keeper", "rules", dd_Keeper_rules⟩]
def fa : List He.Fa := [.glo "is_list", .glo "is_number", .glo "is_word", .glo "thing_conditions", .glo "own_conditions", .glo "held_for", .glo "things_of", .glo "views_of", .glo "are_different", .glo "is_deed", .glo "is_rule", .glo "are_wants", .glo "need_words", .glo "all_views", .glo "table_of", .glo "choice", .glo "parted", .glo "idle", .glo "trimmed", .glo "_law_begun", .glo "_law_mixed", .glo "_law_take", .glo "_law_pick", .glo "_law_word", .glo "_law_words", .glo "_law_any_rule", .glo "_law_refusal", .glo "_law_is_plain_word", .glo "_law_due", .glo "law", .glo "KeeperError", .glo "BadWord", .glo "BadKeeper", .glo "BadRule", .glo "Keeper", .str "LETTERS" "abcdefghijklmnopqrstuvwxyz", .int "LONGEST" 8, .glo "CONDITIONS", .glo "PARTS", .glo "PLAIN_DEEDS", .str "TURN" "turn", .int "MOST_CONDITIONS" 6, .int "MOST_RULES" 8, .int "MOST_WANTS" 3, .int "MOST_WORDS" 3, .free "abs", .free "all", .free "bool", .free "enumerate", .free "int", .free "isinstance", .free "len", .free "list", .free "min", .free "range", .free "repr", .free "set", .free "sorted", .free "str", .free "tuple", .cls "Keeper", .mkr "Keeper", .noat "Keeper" "own_name", .noat "Keeper" "own_wants", .noat "Keeper" "own_rules", .meth "Keeper" "decided", .exm "BadWord" "KeeperError" true]
def exl (K : PySem.W.Frag) : List Bool := [He.tupB K "CONDITIONS" [.str "alone", .str "bare", .str "child", .str "free", .str "going", .str "gone", .str "held", .str "others", .str "right", .str "strays", .str "there", .str "tidy", .str "unwanted", .str "wanted", .str "wrong"], He.tupB K "PARTS" [.str "other", .str "own", .str "stray", .str "thing"], He.tupB K "PLAIN_DEEDS" [.str "clear", .str "correct", .str "hold", .str "make", .str "mark", .str "release", .str "strike"], modKB K, kInitB K (He.ga K "KeeperError"), errB K "BadWord" "thing", lenB K "Keeper", propB K "Keeper" "name", propB K "Keeper" "wants", propB K "Keeper" "rules"]
def ex (K : PySem.W.Frag) : Bool := (exl K).all id
def tf : List He.Defn := [("law", none)]
structure Tx (w : World) (h : Heap) (K : PySem.W.Frag) (mg : Str → Option Value) : Prop where
  X : K.In h
  G : h.Ns mainGlobals mg
  c : Says fa fn gs tf ex w h K
section
variable {w : World} {h : Heap} {K : PySem.W.Frag} {mg : Str → Option Value}
theorem Tx.ext (T : Tx w h K mg) (i : Nat) {b : Bool} (e : (exl K)[i]? = some b) : b = true := List.all_eq_true.mp T.c.x.more b (List.mem_of_getElem? e)
theorem Tx.g_is_list (T : Tx w h K mg) : mg "is_list" = some (.ref (He.ga K "is_list")) := He.glo_ok T.X T.G (T.c.fact 0 (f := .glo "is_list") rfl)
theorem Tx.g_is_number (T : Tx w h K mg) : mg "is_number" = some (.ref (He.ga K "is_number")) := He.glo_ok T.X T.G (T.c.fact 1 (f := .glo "is_number") rfl)
theorem Tx.g_is_word (T : Tx w h K mg) : mg "is_word" = some (.ref (He.ga K "is_word")) := He.glo_ok T.X T.G (T.c.fact 2 (f := .glo "is_word") rfl)
theorem Tx.g_thing_conditions (T : Tx w h K mg) : mg "thing_conditions" = some (.ref (He.ga K "thing_conditions")) := He.glo_ok T.X T.G (T.c.fact 3 (f := .glo "thing_conditions") rfl)
theorem Tx.g_own_conditions (T : Tx w h K mg) : mg "own_conditions" = some (.ref (He.ga K "own_conditions")) := He.glo_ok T.X T.G (T.c.fact 4 (f := .glo "own_conditions") rfl)
theorem Tx.g_held_for (T : Tx w h K mg) : mg "held_for" = some (.ref (He.ga K "held_for")) := He.glo_ok T.X T.G (T.c.fact 5 (f := .glo "held_for") rfl)
theorem Tx.g_things_of (T : Tx w h K mg) : mg "things_of" = some (.ref (He.ga K "things_of")) := He.glo_ok T.X T.G (T.c.fact 6 (f := .glo "things_of") rfl)
theorem Tx.g_views_of (T : Tx w h K mg) : mg "views_of" = some (.ref (He.ga K "views_of")) := He.glo_ok T.X T.G (T.c.fact 7 (f := .glo "views_of") rfl)
theorem Tx.g_are_different (T : Tx w h K mg) : mg "are_different" = some (.ref (He.ga K "are_different")) := He.glo_ok T.X T.G (T.c.fact 8 (f := .glo "are_different") rfl)
theorem Tx.g_is_deed (T : Tx w h K mg) : mg "is_deed" = some (.ref (He.ga K "is_deed")) := He.glo_ok T.X T.G (T.c.fact 9 (f := .glo "is_deed") rfl)
theorem Tx.g_is_rule (T : Tx w h K mg) : mg "is_rule" = some (.ref (He.ga K "is_rule")) := He.glo_ok T.X T.G (T.c.fact 10 (f := .glo "is_rule") rfl)
theorem Tx.g_are_wants (T : Tx w h K mg) : mg "are_wants" = some (.ref (He.ga K "are_wants")) := He.glo_ok T.X T.G (T.c.fact 11 (f := .glo "are_wants") rfl)
theorem Tx.g_need_words (T : Tx w h K mg) : mg "need_words" = some (.ref (He.ga K "need_words")) := He.glo_ok T.X T.G (T.c.fact 12 (f := .glo "need_words") rfl)
theorem Tx.g_all_views (T : Tx w h K mg) : mg "all_views" = some (.ref (He.ga K "all_views")) := He.glo_ok T.X T.G (T.c.fact 13 (f := .glo "all_views") rfl)
theorem Tx.g_table_of (T : Tx w h K mg) : mg "table_of" = some (.ref (He.ga K "table_of")) := He.glo_ok T.X T.G (T.c.fact 14 (f := .glo "table_of") rfl)
theorem Tx.g_choice (T : Tx w h K mg) : mg "choice" = some (.ref (He.ga K "choice")) := He.glo_ok T.X T.G (T.c.fact 15 (f := .glo "choice") rfl)
theorem Tx.g_parted (T : Tx w h K mg) : mg "parted" = some (.ref (He.ga K "parted")) := He.glo_ok T.X T.G (T.c.fact 16 (f := .glo "parted") rfl)
theorem Tx.g_idle (T : Tx w h K mg) : mg "idle" = some (.ref (He.ga K "idle")) := He.glo_ok T.X T.G (T.c.fact 17 (f := .glo "idle") rfl)
theorem Tx.g_trimmed (T : Tx w h K mg) : mg "trimmed" = some (.ref (He.ga K "trimmed")) := He.glo_ok T.X T.G (T.c.fact 18 (f := .glo "trimmed") rfl)
theorem Tx.g_law_begun (T : Tx w h K mg) : mg "_law_begun" = some (.ref (He.ga K "_law_begun")) := He.glo_ok T.X T.G (T.c.fact 19 (f := .glo "_law_begun") rfl)
theorem Tx.g_law_mixed (T : Tx w h K mg) : mg "_law_mixed" = some (.ref (He.ga K "_law_mixed")) := He.glo_ok T.X T.G (T.c.fact 20 (f := .glo "_law_mixed") rfl)
theorem Tx.g_law_take (T : Tx w h K mg) : mg "_law_take" = some (.ref (He.ga K "_law_take")) := He.glo_ok T.X T.G (T.c.fact 21 (f := .glo "_law_take") rfl)
theorem Tx.g_law_pick (T : Tx w h K mg) : mg "_law_pick" = some (.ref (He.ga K "_law_pick")) := He.glo_ok T.X T.G (T.c.fact 22 (f := .glo "_law_pick") rfl)
theorem Tx.g_law_word (T : Tx w h K mg) : mg "_law_word" = some (.ref (He.ga K "_law_word")) := He.glo_ok T.X T.G (T.c.fact 23 (f := .glo "_law_word") rfl)
theorem Tx.g_law_words (T : Tx w h K mg) : mg "_law_words" = some (.ref (He.ga K "_law_words")) := He.glo_ok T.X T.G (T.c.fact 24 (f := .glo "_law_words") rfl)
theorem Tx.g_law_any_rule (T : Tx w h K mg) : mg "_law_any_rule" = some (.ref (He.ga K "_law_any_rule")) := He.glo_ok T.X T.G (T.c.fact 25 (f := .glo "_law_any_rule") rfl)
theorem Tx.g_law_refusal (T : Tx w h K mg) : mg "_law_refusal" = some (.ref (He.ga K "_law_refusal")) := He.glo_ok T.X T.G (T.c.fact 26 (f := .glo "_law_refusal") rfl)
theorem Tx.g_law_is_plain_word (T : Tx w h K mg) : mg "_law_is_plain_word" = some (.ref (He.ga K "_law_is_plain_word")) := He.glo_ok T.X T.G (T.c.fact 27 (f := .glo "_law_is_plain_word") rfl)
theorem Tx.g_law_due (T : Tx w h K mg) : mg "_law_due" = some (.ref (He.ga K "_law_due")) := He.glo_ok T.X T.G (T.c.fact 28 (f := .glo "_law_due") rfl)
theorem Tx.g_law (T : Tx w h K mg) : mg "law" = some (.ref (He.ga K "law")) := He.glo_ok T.X T.G (T.c.fact 29 (f := .glo "law") rfl)
theorem Tx.g_KeeperError (T : Tx w h K mg) : mg "KeeperError" = some (.ref (He.ga K "KeeperError")) := He.glo_ok T.X T.G (T.c.fact 30 (f := .glo "KeeperError") rfl)
theorem Tx.g_BadWord (T : Tx w h K mg) : mg "BadWord" = some (.ref (He.ga K "BadWord")) := He.glo_ok T.X T.G (T.c.fact 31 (f := .glo "BadWord") rfl)
theorem Tx.g_BadKeeper (T : Tx w h K mg) : mg "BadKeeper" = some (.ref (He.ga K "BadKeeper")) := He.glo_ok T.X T.G (T.c.fact 32 (f := .glo "BadKeeper") rfl)
theorem Tx.g_BadRule (T : Tx w h K mg) : mg "BadRule" = some (.ref (He.ga K "BadRule")) := He.glo_ok T.X T.G (T.c.fact 33 (f := .glo "BadRule") rfl)
theorem Tx.g_Keeper (T : Tx w h K mg) : mg "Keeper" = some (.ref (He.ga K "Keeper")) := He.glo_ok T.X T.G (T.c.fact 34 (f := .glo "Keeper") rfl)
theorem Tx.s_LETTERS (T : Tx w h K mg) : ∃ t, mg "LETTERS" = some (.str "abcdefghijklmnopqrstuvwxyz" t) := He.str_ok T.X T.G (T.c.fact 35 (f := .str "LETTERS" "abcdefghijklmnopqrstuvwxyz") rfl)
theorem Tx.i_LONGEST (T : Tx w h K mg) : ∃ t, mg "LONGEST" = some (.int 8 t) := He.int_ok T.X T.G (T.c.fact 36 (f := .int "LONGEST" 8) rfl)
theorem Tx.g_CONDITIONS (T : Tx w h K mg) : mg "CONDITIONS" = some (.ref (He.ga K "CONDITIONS")) := He.glo_ok T.X T.G (T.c.fact 37 (f := .glo "CONDITIONS") rfl)
theorem Tx.g_PARTS (T : Tx w h K mg) : mg "PARTS" = some (.ref (He.ga K "PARTS")) := He.glo_ok T.X T.G (T.c.fact 38 (f := .glo "PARTS") rfl)
theorem Tx.g_PLAIN_DEEDS (T : Tx w h K mg) : mg "PLAIN_DEEDS" = some (.ref (He.ga K "PLAIN_DEEDS")) := He.glo_ok T.X T.G (T.c.fact 39 (f := .glo "PLAIN_DEEDS") rfl)
theorem Tx.s_TURN (T : Tx w h K mg) : ∃ t, mg "TURN" = some (.str "turn" t) := He.str_ok T.X T.G (T.c.fact 40 (f := .str "TURN" "turn") rfl)
theorem Tx.i_MOST_CONDITIONS (T : Tx w h K mg) : ∃ t, mg "MOST_CONDITIONS" = some (.int 6 t) := He.int_ok T.X T.G (T.c.fact 41 (f := .int "MOST_CONDITIONS" 6) rfl)
theorem Tx.i_MOST_RULES (T : Tx w h K mg) : ∃ t, mg "MOST_RULES" = some (.int 8 t) := He.int_ok T.X T.G (T.c.fact 42 (f := .int "MOST_RULES" 8) rfl)
theorem Tx.i_MOST_WANTS (T : Tx w h K mg) : ∃ t, mg "MOST_WANTS" = some (.int 3 t) := He.int_ok T.X T.G (T.c.fact 43 (f := .int "MOST_WANTS" 3) rfl)
theorem Tx.i_MOST_WORDS (T : Tx w h K mg) : ∃ t, mg "MOST_WORDS" = some (.int 3 t) := He.int_ok T.X T.G (T.c.fact 44 (f := .int "MOST_WORDS" 3) rfl)
theorem Tx.f_abs (T : Tx w h K mg) : mg "abs" = none := He.free_ok T.X T.G (T.c.fact 45 (f := .free "abs") rfl)
theorem Tx.f_all (T : Tx w h K mg) : mg "all" = none := He.free_ok T.X T.G (T.c.fact 46 (f := .free "all") rfl)
theorem Tx.f_bool (T : Tx w h K mg) : mg "bool" = none := He.free_ok T.X T.G (T.c.fact 47 (f := .free "bool") rfl)
theorem Tx.f_enumerate (T : Tx w h K mg) : mg "enumerate" = none := He.free_ok T.X T.G (T.c.fact 48 (f := .free "enumerate") rfl)
theorem Tx.f_int (T : Tx w h K mg) : mg "int" = none := He.free_ok T.X T.G (T.c.fact 49 (f := .free "int") rfl)
theorem Tx.f_isinstance (T : Tx w h K mg) : mg "isinstance" = none := He.free_ok T.X T.G (T.c.fact 50 (f := .free "isinstance") rfl)
theorem Tx.f_len (T : Tx w h K mg) : mg "len" = none := He.free_ok T.X T.G (T.c.fact 51 (f := .free "len") rfl)
theorem Tx.f_list (T : Tx w h K mg) : mg "list" = none := He.free_ok T.X T.G (T.c.fact 52 (f := .free "list") rfl)
theorem Tx.f_min (T : Tx w h K mg) : mg "min" = none := He.free_ok T.X T.G (T.c.fact 53 (f := .free "min") rfl)
theorem Tx.f_range (T : Tx w h K mg) : mg "range" = none := He.free_ok T.X T.G (T.c.fact 54 (f := .free "range") rfl)
theorem Tx.f_repr (T : Tx w h K mg) : mg "repr" = none := He.free_ok T.X T.G (T.c.fact 55 (f := .free "repr") rfl)
theorem Tx.f_set (T : Tx w h K mg) : mg "set" = none := He.free_ok T.X T.G (T.c.fact 56 (f := .free "set") rfl)
theorem Tx.f_sorted (T : Tx w h K mg) : mg "sorted" = none := He.free_ok T.X T.G (T.c.fact 57 (f := .free "sorted") rfl)
theorem Tx.f_str (T : Tx w h K mg) : mg "str" = none := He.free_ok T.X T.G (T.c.fact 58 (f := .free "str") rfl)
theorem Tx.f_tuple (T : Tx w h K mg) : mg "tuple" = none := He.free_ok T.X T.G (T.c.fact 59 (f := .free "tuple") rfl)
theorem Tx.cls_Keeper (T : Tx w h K mg) : Cls K (He.ga K "Keeper") := He.cls_ok (T.c.fact 60 (f := .cls "Keeper") rfl)
theorem Tx.mk_Keeper (T : Tx w h K mg) : Mk K (He.ga K "Keeper") (He.ma K (He.ga K "Keeper") "__init__") := He.mkr_ok (T.c.fact 61 (f := .mkr "Keeper") rfl)
theorem Tx.no_Keeper_own_name (T : Tx w h K mg) : NoAttr K (He.ga K "Keeper") "own_name" := He.noat_ok (T.c.fact 62 (f := .noat "Keeper" "own_name") rfl)
theorem Tx.no_Keeper_own_wants (T : Tx w h K mg) : NoAttr K (He.ga K "Keeper") "own_wants" := He.noat_ok (T.c.fact 63 (f := .noat "Keeper" "own_wants") rfl)
theorem Tx.no_Keeper_own_rules (T : Tx w h K mg) : NoAttr K (He.ga K "Keeper") "own_rules" := He.noat_ok (T.c.fact 64 (f := .noat "Keeper" "own_rules") rfl)
theorem Tx.m_Keeper_decided (T : Tx w h K mg) : Meth K (He.ga K "Keeper") "decided" (He.ma K (He.ga K "Keeper") "decided") := He.meth_ok (T.c.fact 65 (f := .meth "Keeper" "decided") rfl)
theorem Tx.x_BadWord_KeeperError (T : Tx w h K mg) : PySem.W.exmOne K (.ref (He.ga K "BadWord")) (.ref (He.ga K "KeeperError")) = some true := He.exm_ok (T.c.fact 66 (f := .exm "BadWord" "KeeperError" true) rfl)
theorem Tx.t_CONDITIONS (T : Tx w h K mg) (H : Hp) : SqT K H (He.ga K "CONDITIONS") [.str "alone", .str "bare", .str "child", .str "free", .str "going", .str "gone", .str "held", .str "others", .str "right", .str "strays", .str "there", .str "tidy", .str "unwanted", .str "wanted", .str "wrong"] := He.tupB_ok (T.ext 0 rfl) H
theorem Tx.t_PARTS (T : Tx w h K mg) (H : Hp) : SqT K H (He.ga K "PARTS") [.str "other", .str "own", .str "stray", .str "thing"] := He.tupB_ok (T.ext 1 rfl) H
theorem Tx.t_PLAIN_DEEDS (T : Tx w h K mg) (H : Hp) : SqT K H (He.ga K "PLAIN_DEEDS") [.str "clear", .str "correct", .str "hold", .str "make", .str "mark", .str "release", .str "strike"] := He.tupB_ok (T.ext 2 rfl) H
theorem Tx.modK (T : Tx w h K mg) : ModK K := modKB_ok (T.ext 3 rfl)
theorem Tx.kinit (T : Tx w h K mg) : KInit K (He.ga K "KeeperError") := kInitB_ok (T.ext 4 rfl)
theorem Tx.err (T : Tx w h K mg) : ErrC K "BadWord" "thing" := errB_ok (T.ext 5 rfl)
theorem Tx.lenK (T : Tx w h K mg) : LenOf K (He.ga K "Keeper") (He.ma K (He.ga K "Keeper") "__len__") := lenB_ok (T.ext 6 rfl)
theorem Tx.p_name (T : Tx w h K mg) : PropOf K (He.ga K "Keeper") "name" (He.ma K (He.ga K "Keeper") "name") (getterOf K "Keeper" "name") := propB_ok (T.ext 7 rfl)
theorem Tx.p_wants (T : Tx w h K mg) : PropOf K (He.ga K "Keeper") "wants" (He.ma K (He.ga K "Keeper") "wants") (getterOf K "Keeper" "wants") := propB_ok (T.ext 8 rfl)
theorem Tx.p_rules (T : Tx w h K mg) : PropOf K (He.ga K "Keeper") "rules" (He.ma K (He.ga K "Keeper") "rules") (getterOf K "Keeper" "rules") := propB_ok (T.ext 9 rfl)
theorem Tx.d_BadWord_init (T : Tx w h K mg) : ∃ fd, FunD K "__init__" "BadWord.__init__" (defArgs st_BadWord_init) (defBody st_BadWord_init) (defScope st_BadWord_init) [] [] (He.ma K (He.ga K "BadWord") "__init__") fd := T.c.def_ 0 (d := dd_BadWord_init) rfl
theorem Tx.d_is_list (T : Tx w h K mg) : ∃ fd, FunD K "is_list" "is_list" (defArgs st_is_list) (defBody st_is_list) (defScope st_is_list) [] [] (He.ga K "is_list") fd := T.c.def_ 1 (d := dd_is_list) rfl
theorem Tx.d_is_number (T : Tx w h K mg) : ∃ fd, FunD K "is_number" "is_number" (defArgs st_is_number) (defBody st_is_number) (defScope st_is_number) [] [] (He.ga K "is_number") fd := T.c.def_ 2 (d := dd_is_number) rfl
theorem Tx.d_is_word (T : Tx w h K mg) : ∃ fd, FunD K "is_word" "is_word" (defArgs st_is_word) (defBody st_is_word) (defScope st_is_word) [] [] (He.ga K "is_word") fd := T.c.def_ 3 (d := dd_is_word) rfl
theorem Tx.d_thing_conditions (T : Tx w h K mg) : ∃ fd, FunD K "thing_conditions" "thing_conditions" (defArgs st_thing_conditions) (defBody st_thing_conditions) (defScope st_thing_conditions) [] [] (He.ga K "thing_conditions") fd := T.c.def_ 4 (d := dd_thing_conditions) rfl
theorem Tx.d_own_conditions (T : Tx w h K mg) : ∃ fd, FunD K "own_conditions" "own_conditions" (defArgs st_own_conditions) (defBody st_own_conditions) (defScope st_own_conditions) [] [] (He.ga K "own_conditions") fd := T.c.def_ 5 (d := dd_own_conditions) rfl
theorem Tx.d_held_for (T : Tx w h K mg) : ∃ fd, FunD K "held_for" "held_for" (defArgs st_held_for) (defBody st_held_for) (defScope st_held_for) [] [] (He.ga K "held_for") fd := T.c.def_ 6 (d := dd_held_for) rfl
theorem Tx.d_things_of (T : Tx w h K mg) : ∃ fd, FunD K "things_of" "things_of" (defArgs st_things_of) (defBody st_things_of) (defScope st_things_of) [] [] (He.ga K "things_of") fd := T.c.def_ 7 (d := dd_things_of) rfl
theorem Tx.d_views_of (T : Tx w h K mg) : ∃ fd, FunD K "views_of" "views_of" (defArgs st_views_of) (defBody st_views_of) (defScope st_views_of) [] [] (He.ga K "views_of") fd := T.c.def_ 8 (d := dd_views_of) rfl
theorem Tx.d_are_different (T : Tx w h K mg) : ∃ fd, FunD K "are_different" "are_different" (defArgs st_are_different) (defBody st_are_different) (defScope st_are_different) [] [] (He.ga K "are_different") fd := T.c.def_ 9 (d := dd_are_different) rfl
theorem Tx.d_is_deed (T : Tx w h K mg) : ∃ fd, FunD K "is_deed" "is_deed" (defArgs st_is_deed) (defBody st_is_deed) (defScope st_is_deed) [] [] (He.ga K "is_deed") fd := T.c.def_ 10 (d := dd_is_deed) rfl
theorem Tx.d_is_rule (T : Tx w h K mg) : ∃ fd, FunD K "is_rule" "is_rule" (defArgs st_is_rule) (defBody st_is_rule) (defScope st_is_rule) [] [] (He.ga K "is_rule") fd := T.c.def_ 11 (d := dd_is_rule) rfl
theorem Tx.d_are_wants (T : Tx w h K mg) : ∃ fd, FunD K "are_wants" "are_wants" (defArgs st_are_wants) (defBody st_are_wants) (defScope st_are_wants) [] [] (He.ga K "are_wants") fd := T.c.def_ 12 (d := dd_are_wants) rfl
theorem Tx.d_Keeper_init (T : Tx w h K mg) : ∃ fd, FunD K "__init__" "Keeper.__init__" (defArgs st_Keeper_init) (defBody st_Keeper_init) (defScope st_Keeper_init) [] [] (He.ma K (He.ga K "Keeper") "__init__") fd := T.c.def_ 13 (d := dd_Keeper_init) rfl
theorem Tx.d_Keeper_len (T : Tx w h K mg) : ∃ fd, FunD K "__len__" "Keeper.__len__" (defArgs st_Keeper_len) (defBody st_Keeper_len) (defScope st_Keeper_len) [] [] (He.ma K (He.ga K "Keeper") "__len__") fd := T.c.def_ 14 (d := dd_Keeper_len) rfl
theorem Tx.d_Keeper_decided (T : Tx w h K mg) : ∃ fd, FunD K "decided" "Keeper.decided" (defArgs st_Keeper_decided) (defBody st_Keeper_decided) (defScope st_Keeper_decided) [] [] (He.ma K (He.ga K "Keeper") "decided") fd := T.c.def_ 15 (d := dd_Keeper_decided) rfl
theorem Tx.d_need_words (T : Tx w h K mg) : ∃ fd, FunD K "need_words" "need_words" (defArgs st_need_words) (defBody st_need_words) (defScope st_need_words) [] [] (He.ga K "need_words") fd := T.c.def_ 16 (d := dd_need_words) rfl
theorem Tx.d_all_views (T : Tx w h K mg) : ∃ fd, FunD K "all_views" "all_views" (defArgs st_all_views) (defBody st_all_views) (defScope st_all_views) [] [] (He.ga K "all_views") fd := T.c.def_ 17 (d := dd_all_views) rfl
theorem Tx.d_table_of (T : Tx w h K mg) : ∃ fd, FunD K "table_of" "table_of" (defArgs st_table_of) (defBody st_table_of) (defScope st_table_of) [] [] (He.ga K "table_of") fd := T.c.def_ 18 (d := dd_table_of) rfl
theorem Tx.d_choice (T : Tx w h K mg) : ∃ fd, FunD K "choice" "choice" (defArgs st_choice) (defBody st_choice) (defScope st_choice) [] [] (He.ga K "choice") fd := T.c.def_ 19 (d := dd_choice) rfl
theorem Tx.d_parted (T : Tx w h K mg) : ∃ fd, FunD K "parted" "parted" (defArgs st_parted) (defBody st_parted) (defScope st_parted) [] [] (He.ga K "parted") fd := T.c.def_ 20 (d := dd_parted) rfl
theorem Tx.d_idle (T : Tx w h K mg) : ∃ fd, FunD K "idle" "idle" (defArgs st_idle) (defBody st_idle) (defScope st_idle) [] [] (He.ga K "idle") fd := T.c.def_ 21 (d := dd_idle) rfl
theorem Tx.d_trimmed (T : Tx w h K mg) : ∃ fd, FunD K "trimmed" "trimmed" (defArgs st_trimmed) (defBody st_trimmed) (defScope st_trimmed) [] [] (He.ga K "trimmed") fd := T.c.def_ 22 (d := dd_trimmed) rfl
theorem Tx.d_law_begun (T : Tx w h K mg) : ∃ fd, FunD K "_law_begun" "_law_begun" (defArgs st_law_begun) (defBody st_law_begun) (defScope st_law_begun) [] [] (He.ga K "_law_begun") fd := T.c.def_ 23 (d := dd_law_begun) rfl
theorem Tx.d_law_mixed (T : Tx w h K mg) : ∃ fd, FunD K "_law_mixed" "_law_mixed" (defArgs st_law_mixed) (defBody st_law_mixed) (defScope st_law_mixed) [] [] (He.ga K "_law_mixed") fd := T.c.def_ 24 (d := dd_law_mixed) rfl
theorem Tx.d_law_take (T : Tx w h K mg) : ∃ fd, FunD K "_law_take" "_law_take" (defArgs st_law_take) (defBody st_law_take) (defScope st_law_take) [] [] (He.ga K "_law_take") fd := T.c.def_ 25 (d := dd_law_take) rfl
theorem Tx.d_law_pick (T : Tx w h K mg) : ∃ fd, FunD K "_law_pick" "_law_pick" (defArgs st_law_pick) (defBody st_law_pick) (defScope st_law_pick) [] [] (He.ga K "_law_pick") fd := T.c.def_ 26 (d := dd_law_pick) rfl
theorem Tx.d_law_word (T : Tx w h K mg) : ∃ fd, FunD K "_law_word" "_law_word" (defArgs st_law_word) (defBody st_law_word) (defScope st_law_word) [] [] (He.ga K "_law_word") fd := T.c.def_ 27 (d := dd_law_word) rfl
theorem Tx.d_law_words (T : Tx w h K mg) : ∃ fd, FunD K "_law_words" "_law_words" (defArgs st_law_words) (defBody st_law_words) (defScope st_law_words) [] [] (He.ga K "_law_words") fd := T.c.def_ 28 (d := dd_law_words) rfl
theorem Tx.d_law_any_rule (T : Tx w h K mg) : ∃ fd, FunD K "_law_any_rule" "_law_any_rule" (defArgs st_law_any_rule) (defBody st_law_any_rule) (defScope st_law_any_rule) [] [] (He.ga K "_law_any_rule") fd := T.c.def_ 29 (d := dd_law_any_rule) rfl
theorem Tx.d_law_refusal (T : Tx w h K mg) : ∃ fd, FunD K "_law_refusal" "_law_refusal" (defArgs st_law_refusal) (defBody st_law_refusal) (defScope st_law_refusal) [] [] (He.ga K "_law_refusal") fd := T.c.def_ 30 (d := dd_law_refusal) rfl
theorem Tx.d_law_is_plain_word (T : Tx w h K mg) : ∃ fd, FunD K "_law_is_plain_word" "_law_is_plain_word" (defArgs st_law_is_plain_word) (defBody st_law_is_plain_word) (defScope st_law_is_plain_word) [] [] (He.ga K "_law_is_plain_word") fd := T.c.def_ 31 (d := dd_law_is_plain_word) rfl
theorem Tx.d_law_due (T : Tx w h K mg) : ∃ fd, FunD K "_law_due" "_law_due" (defArgs st_law_due) (defBody st_law_due) (defScope st_law_due) [] [] (He.ga K "_law_due") fd := T.c.def_ 32 (d := dd_law_due) rfl
theorem Tx.d_law (T : Tx w h K mg) : ∃ fd, FunD K "law" "law" (defArgs st_law) (defBody st_law) (defScope st_law) [] [] (He.ga K "law") fd := T.c.def_ 33 (d := dd_law) rfl
theorem Tx.d_Keeper_name (T : Tx w h K mg) : ∃ fd, FunD K "name" "Keeper.name" (defArgs st_Keeper_name) (defBody st_Keeper_name) (defScope st_Keeper_name) [] [] (getterOf K "Keeper" "name") fd := T.c.get 0 (p := ⟨"Keeper", "name", dd_Keeper_name⟩) rfl
theorem Tx.d_Keeper_wants (T : Tx w h K mg) : ∃ fd, FunD K "wants" "Keeper.wants" (defArgs st_Keeper_wants) (defBody st_Keeper_wants) (defScope st_Keeper_wants) [] [] (getterOf K "Keeper" "wants") fd := T.c.get 1 (p := ⟨"Keeper", "wants", dd_Keeper_wants⟩) rfl
theorem Tx.d_Keeper_rules (T : Tx w h K mg) : ∃ fd, FunD K "rules" "Keeper.rules" (defArgs st_Keeper_rules) (defBody st_Keeper_rules) (defScope st_Keeper_rules) [] [] (getterOf K "Keeper" "rules") fd := T.c.get 2 (p := ⟨"Keeper", "rules", dd_Keeper_rules⟩) rfl
end
section
variable {w : World} {h : Heap} {X : Cx} {pos : Pos}
theorem Tx.e_LETTERS (T : Tx w h X.K X.mg) (hg : Gl X "LETTERS" := by rfl) : PE X (.Name "LETTERS" pos) (tC (.str "abcdefghijklmnopqrstuvwxyz")) := let ⟨t, e⟩ := T.s_LETTERS; pe_glob hg e ⟨t, rfl⟩
theorem Tx.e_LONGEST (T : Tx w h X.K X.mg) (hg : Gl X "LONGEST" := by rfl) : PE X (.Name "LONGEST" pos) (tC (.int 8)) := let ⟨t, e⟩ := T.i_LONGEST; pe_glob hg e ⟨t, rfl⟩
theorem Tx.e_CONDITIONS (T : Tx w h X.K X.mg) (hg : Gl X "CONDITIONS" := by rfl) : PE X (.Name "CONDITIONS" pos) (tC (.ref (He.ga X.K "CONDITIONS"))) := pe_glob hg T.g_CONDITIONS rfl
theorem Tx.e_PARTS (T : Tx w h X.K X.mg) (hg : Gl X "PARTS" := by rfl) : PE X (.Name "PARTS" pos) (tC (.ref (He.ga X.K "PARTS"))) := pe_glob hg T.g_PARTS rfl
theorem Tx.e_PLAIN_DEEDS (T : Tx w h X.K X.mg) (hg : Gl X "PLAIN_DEEDS" := by rfl) : PE X (.Name "PLAIN_DEEDS" pos) (tC (.ref (He.ga X.K "PLAIN_DEEDS"))) := pe_glob hg T.g_PLAIN_DEEDS rfl
theorem Tx.e_TURN (T : Tx w h X.K X.mg) (hg : Gl X "TURN" := by rfl) : PE X (.Name "TURN" pos) (tC (.str "turn")) := let ⟨t, e⟩ := T.s_TURN; pe_glob hg e ⟨t, rfl⟩
theorem Tx.e_MOST_CONDITIONS (T : Tx w h X.K X.mg) (hg : Gl X "MOST_CONDITIONS" := by rfl) : PE X (.Name "MOST_CONDITIONS" pos) (tC (.int 6)) := let ⟨t, e⟩ := T.i_MOST_CONDITIONS; pe_glob hg e ⟨t, rfl⟩
theorem Tx.e_MOST_RULES (T : Tx w h X.K X.mg) (hg : Gl X "MOST_RULES" := by rfl) : PE X (.Name "MOST_RULES" pos) (tC (.int 8)) := let ⟨t, e⟩ := T.i_MOST_RULES; pe_glob hg e ⟨t, rfl⟩
theorem Tx.e_MOST_WANTS (T : Tx w h X.K X.mg) (hg : Gl X "MOST_WANTS" := by rfl) : PE X (.Name "MOST_WANTS" pos) (tC (.int 3)) := let ⟨t, e⟩ := T.i_MOST_WANTS; pe_glob hg e ⟨t, rfl⟩
theorem Tx.e_MOST_WORDS (T : Tx w h X.K X.mg) (hg : Gl X "MOST_WORDS" := by rfl) : PE X (.Name "MOST_WORDS" pos) (tC (.int 3)) := let ⟨t, e⟩ := T.i_MOST_WORDS; pe_glob hg e ⟨t, rfl⟩
end
-- places in fn: BadWord.__init__=0, is_list=1, is_number=2, is_word=3, thing_conditions=4, own_conditions=5, held_for=6, things_of=7, views_of=8, are_different=9, is_deed=10, is_rule=11, are_wants=12, Keeper.__init__=13, Keeper.__len__=14, Keeper.decided=15, need_words=16, all_views=17, table_of=18, choice=19, parted=20, idle=21, trimmed=22, _law_begun=23, _law_mixed=24, _law_take=25, _law_pick=26, _law_word=27, _law_words=28, _law_any_rule=29, _law_refusal=30, _law_is_plain_word=31, _law_due=32, law=33
end K47

set_option Elab.async false
set_option linter.all false
set_option maxRecDepth 100000
set_option maxHeartbeats 4000000
/-! PD47: the package's plain defs: what they give back. -/
namespace LK
open PySem PySem.Spec PyProof.Rows L2
theorem kit_list (d : PyData) : (kitB (tyD d) "list").isSome = true := by cases d <;> simp only [tyD] <;> decide +kernel
theorem kit_tuple (d : PyData) : (kitB (tyD d) "tuple").isSome = true := by cases d <;> simp only [tyD] <;> decide +kernel
theorem kit_str (d : PyData) : (kitB (tyD d) "str").isSome = true := by cases d <;> simp only [tyD] <;> decide +kernel
/-! ### plain mathematics -/
def lettersS : Str := "abcdefghijklmnopqrstuvwxyz"
def wordS (x : Str) : Bool := (decide ((1 : Int) ≤ (x.length : Int)) && decide ((x.length : Int) ≤ 8)) && x.cps.toList.all fun c => decide (c ∈ lettersS.cps.toList)
def wordD : PyData → Bool
  | .str x => wordS x
  | _ => false
def listD : PyData → Bool
  | .list _ | .tuple _ => true
  | _ => false
def condsS : List Str := ["alone", "bare", "child", "free", "going", "gone", "held", "others", "right", "strays", "there", "tidy", "unwanted", "wanted", "wrong"]
def partsS : List Str := ["other", "own", "stray", "thing"]
def plainS : List Str := ["clear", "correct", "hold", "make", "mark", "release", "strike"]
end LK
namespace K47
open PySem PySem.Spec PyProof.Rows L2 LK
section
variable {P : Program} {w : World} {h : Heap} {K : PySem.W.Frag} {mg : Str → Option Value} {base : Heap}
theorem ok_is_list (T : Tx w h K mg) : FOk P w K mg base CX0 1 "is_list" ["value"] (spD K 1 fun ds d => ∃ v, ds = [v] ∧ d = .bool (listD v)) := by
  obtain ⟨fd, F⟩ := T.d_is_list
  refine ⟨T.g_is_list, F.kp, fd, okD F sc_is_list (fun cdv A outer s H E hr => ⟨_, (pss_one (ps_ret (pe_callB (kk_isiT (K := K) rfl) (by rfl) T.f_isinstance boot_isinstance (pa_cons (pv 0) (pa_cons (pe_tup (pa_cons (pe_bltn (v := .ty "list") (by rfl) T.f_list boot_list rfl) (pa_cons (pe_bltn (v := .ty "tuple") (by rfl) T.f_tuple boot_tuple rfl) pa_nil))) pa_nil))))), ?_⟩), F.bindsN fun _ _ _ _ _ _ us hl => match us, hl with | [_], _ => rfl⟩
  rintro ds d hl ⟨v, rfl, rfl⟩
  refine s_retD ((e_isi2 (e_dv (d := v)) (kit_list v) (kit_tuple v)).is ?_)
  cases v <;> rfl
theorem ok_is_word (T : Tx w h K mg) : FOk P w K mg base CX0 1 "is_word" ["value"] (spD K 1 fun ds d => ∃ v, ds = [v] ∧ (∀ x, v = .str x → x.length ≤ sizeLine) ∧ d = .bool (wordD v)) := by
  obtain ⟨fd, F⟩ := T.d_is_word
  refine ⟨T.g_is_word, F.kp, fd, okD F sc_is_word (fun cdv A outer s H E hr => ⟨_, (pss_cons (ps_if (PW.pt (pw_or (pt_not (pt_val (pe_callB (kk_isi (K := K) rfl) (by rfl) T.f_isinstance boot_isinstance (pa_cons (pv 0) (pa_cons (pe_bltn (v := .ty "str") (by rfl) T.f_str boot_str rfl) pa_nil))))) (pw_or1 (pt_not (pt_chain op_le op_le pe_int (pe_callB call_len_str (by rfl) T.f_len boot_len (pa_cons (pv 0) pa_nil)) T.e_LONGEST))))) (pss_one (ps_ret pe_bl)) pss_nil)
    (pss_one (ps_ret (pe_callB (kk_all (K := K) rfl rfl) (by rfl) T.f_all boot_all (pa_cons (pe_lc (own := [("letter", 1)]) rfl sc_is_word.nd (pi_str (pv 0)) (blkOk_by (N := ["value", "letter"]) (sc := defScope st_is_word) (by decide +kernel)) (fun _ _ _ _ _ => (pg_name (i := 1) sc_is_word.nd rfl (.inl rfl))) (fun _ _ _ _ _ => pts_nil) (fun _ _ _ _ _ => (pe_cmpR op_in_sign (pv 1) T.e_LETTERS rfl))) pa_nil))))), ?_⟩), F.bindsN fun _ _ _ _ _ _ us hl => match us, hl with | [_], _ => rfl⟩
  rintro ds d hl ⟨v, rfl, hz, rfl⟩
  by_cases hb : isiB v "str" = false
  · have e : wordD v = false := by cases v <;> first | rfl | exact absurd hb (by simp only [isiB, tyD]; decide +kernel)
    rw [e]
    exact q_ifret (b := true) ((b_or (b := true) (b_not (b_tb (e_isi (e_dv (d := v)) (kit_str v)))) (fun z => by rw [hb] at z; cases z)).is (by rw [hb]; rfl)) cl_T (fun _ => s_retD e_bl) (fun z => by cases z)
  obtain ⟨x, rfl⟩ : ∃ x, v = .str x := by cases v <;> first | exact ⟨_, rfl⟩ | exact absurd (by simp only [isiB, tyD]; decide +kernel) hb
  have hs : isiB (.str x) "str" = true := by simp only [isiB, tyD]; decide +kernel
  refine q_ifret (b_or (b_not (b_tb (e_isi (e_dv (d := .str x)) (kit_str _)))) (fun _ => b_not (b_test (e_chain e_int (e_lenS (e_dv (d := .str x)) (hz x rfl)) e_int)))) cl_T (fun hb => ?_) (fun hb => ?_)
  · have e : wordD (.str x) = false := by
      rw [hs] at hb
      have hb2 : (decide ((1 : Int) ≤ (x.length : Int)) && decide ((x.length : Int) ≤ 8)) = false := (Bool.not_eq_true' _).mp hb
      show wordS x = false
      unfold wordS
      rw [hb2, Bool.false_and]
    rw [e]
    exact s_retD e_bl
  · have hb2 : (decide ((1 : Int) ≤ (x.length : Int)) && decide ((x.length : Int) ≤ 8)) = true := by
      rw [hs] at hb
      exact (Bool.not_eq_false' _).mp hb
    have hw : wordD (.str x) = (x.cps.toList.all fun c => decide (c ∈ lettersS.cps.toList)) := by
      show wordS x = _
      unfold wordS
      rw [hb2, Bool.true_and]
    have hz8 : x.cps.toList.length ≤ 8 := by
      have q := (Bool.and_eq_true_iff.mp hb2).2
      have q2 : (x.length : Int) ≤ 8 := of_decide_eq_true q
      show x.cps.toList.length ≤ 8
      have q3 : x.length = x.cps.toList.length := rfl
      omega
    refine s_retD ((e_all (bs := x.cps.toList.map fun c => decide (c ∈ lettersS.cps.toList)) ((e_lcm (ns := [1]) (up := fun d ρ => ρ.set 1 (some (MP.d K d))) (fun d => .bool (match d with | .str y => decide (y.cps.toList.headD 0 ∈ lettersS.cps.toList) | _ => false)) (src_str (e_dv (d := .str x))) (fun d => gt_name) (fun _ h => h) ?_ ?_).is ?_)).is ?_)
    · refine sz_lt ?_
      unfold LK.signs
      rw [List.length_map]
      omega
    · intro d hd
      obtain ⟨c, _, rfl⟩ := List.mem_map.mp hd
      exact (e_inSign (c := c) (e_dv (d := .str ⟨#[c]⟩)) e_str)
    · unfold LK.signs
      rw [List.map_map, List.map_map]
      rfl
    · rw [hw, List.all_map]
      rfl
end
end K47

set_option Elab.async false
set_option linter.all false
set_option maxRecDepth 100000
set_option maxHeartbeats 4000000
/-! PD47b: views, conditions, rules' validity. -/
namespace LK
open PySem PySem.Spec PyProof.Rows L2
theorem e_ifD {K : PySem.W.Frag} {ρ : Ro} {tt : TT} {ta tb : TE} {b : Bool} {d1 d2 : PyData} (h : EvB tt ρ b) (h1 : Ev K ta ρ d1) (h2 : Ev K tb ρ d2) : Ev K (tIf tt ta tb) ρ (if b then d1 else d2) :=
  e_if h (fun e => by subst e; exact h1) (fun e => by subst e; exact h2)
theorem isi_tuple (ds : List PyData) : isiB (.tuple ds) "tuple" = true := by simp only [isiB, tyD]; decide +kernel
theorem isi_str (x : Str) : isiB (.str x) "str" = true := by simp only [isiB, tyD]; decide +kernel
theorem all_true {α : Type} (xs : List α) : PyData.bool ((xs.map fun _ => true).all id) = .bool true := congrArg PyData.bool (by simp [List.all_eq_true])
theorem word_ok {x : Str} (h : wordS x = true) : PyData.strOk x = true := by
  unfold wordS at h
  have h2 := (Bool.and_eq_true_iff.mp h).2
  unfold PyData.strOk
  rw [Array.all_eq_true']
  intro c hc
  have h3 := List.all_eq_true.mp h2 c (by simpa using hc)
  have h4 : c ∈ lettersS.cps.toList := of_decide_eq_true h3
  have h5 : ∀ c ∈ lettersS.cps.toList, c < 0x110000 := by decide +kernel
  exact decide_eq_true (h5 c h4)
theorem word_len {x : Str} (h : wordS x = true) : x.length ≤ sizeLine := by
  unfold wordS at h
  have h2 : (x.length : Int) ≤ 8 := of_decide_eq_true (Bool.and_eq_true_iff.mp (Bool.and_eq_true_iff.mp h).1).2
  have h3 : (8 : Nat) ≤ sizeLine := by decide
  omega
theorem shp_turn {x : Str} (h : wordS x = true) : SeqAt.shaped (.tuple [.str "turn", .str x]) = true := by
  have h1 : PyData.strOk "turn" = true := by decide +kernel
  simp [SeqAt.shaped, PyData.canLay0, PyData.canLayAll0, PyData.depth, PyData.depthAll, word_ok h, h1]
theorem plain_turn {x : Str} (h : x ∈ plainS) : ¬ x = "turn" := fun e => by
  subst e
  revert h
  decide +kernel
theorem shp_plain {x : Str} (h : x ∈ plainS) : SeqAt.shaped (.tuple [.str x]) = true := by
  have h1 : ∀ y ∈ plainS, SeqAt.shaped (.tuple [.str y]) = true := by decide +kernel
  exact h1 x h
/-- () or (word, bool, bool) -/
def thingD (d : PyData) : Prop := d = .tuple [] ∨ ∃ (x : Str) (b c : Bool), PyData.strOk x = true ∧ d = .tuple [.str x, .bool b, .bool c]
/-- () or (1, word) -/
def ownD (d : PyData) : Prop := d = .tuple [] ∨ ∃ (x : Str), PyData.strOk x = true ∧ d = .tuple [.int 1, .str x]
def viewD (d : PyData) : Prop := ∃ (t o : PyData) (b : Bool) (n : Int), d = .tuple [t, o, .bool b, .int n] ∧ thingD t ∧ ownD o
/-- a list of at most n texts -/
def strsR (K : PySem.W.Frag) (n : Nat) (F : Hp) (v : V) : Prop := ∃ xs : List Str, xs.length ≤ n ∧ Dat K F (.list (xs.map PyData.str)) v
theorem strsR.mono {K : PySem.W.Frag} {n : Nat} {F F' : Hp} {v : V} (e : Sub F F') : strsR K n F v → strsR K n F' v := fun ⟨xs, h, d⟩ => ⟨xs, h, d.mono e⟩
abbrev MP.st (K : PySem.W.Frag) (n : Nat) : MP := ⟨strsR K n, fun e h => h.mono e⟩
section
variable {K : PySem.W.Frag} {ρ : Ro} {te ta tb : TE} {m n : Nat}
theorem strs_form : ∀ {ds : List PyData}, (∀ d ∈ ds, ∃ x, d = PyData.str x) → ∃ xs : List Str, ds = xs.map PyData.str
  | [], _ => ⟨[], rfl⟩
  | d :: ds, h => by
    obtain ⟨x, rfl⟩ := h d List.mem_cons_self
    obtain ⟨xs, rfl⟩ := strs_form fun e he => h e (List.mem_cons_of_mem _ he)
    exact ⟨x :: xs, rfl⟩
theorem e_strs {ds : List PyData} (h : Ev K te ρ (.list ds)) (hs : ∀ d ∈ ds, ∃ x, d = PyData.str x) (hn : ds.length ≤ n) : EvR te ρ (strsR K n) := h.imp fun F v r => by
  obtain ⟨xs, rfl⟩ := strs_form hs
  exact ⟨xs, by rw [← List.length_map (f := PyData.str)]; exact hn, r⟩
theorem e_catS (ha : EvR ta ρ (strsR K m)) (hb : EvR tb ρ (strsR K n)) (hz : m + n ≤ sizeLine) : EvR (tOp (rCatL K) ta tb) ρ (strsR K (m + n)) := fun F H σ s sl Q q =>
  ha F H σ s sl _ fun x F1 H1 l1 ⟨xs, hx, r1⟩ => hb F1 H1 σ l1.s (sl.mono l1.f) _ fun y F2 H2 l2 ⟨ys, hy, r2⟩ => by
    cases r1 with
    | lst h1 a1 =>
      cases r2 with
      | lst h2 a2 =>
        have e1 := a1.length
        have e2 := a2.length
        rw [List.length_map] at e1 e2
        refine ⟨_, _, _, _, rfl, rfl, sql_sub (l2.f.trans l2.s) h1, sql_sub l2.s h2, by omega, fun p hp => q (.ref p) (upd F2 p _) _ ((l1.trans l2).trans (Le.new l2.s hp)) ⟨xs ++ ys, by rw [List.length_append]; omega, ?_⟩⟩
        rw [List.map_append]
        exact .lst (SqL.of upd_same) (((a1.mono l2.f).app a2).mono (Sub.new (l2.s.none hp)))
theorem str_if {c : Prop} [Decidable c] {x y : Str} : ∃ z, (if c then PyData.str x else PyData.str y) = PyData.str z := by
  by_cases h : c
  · rw [if_pos h]; exact ⟨_, rfl⟩
  · rw [if_neg h]; exact ⟨_, rfl⟩
theorem e_sortS (h : EvR te ρ (strsR K n)) (hn : n < 64) : EvR (tCB (rSortedA K) (tCons te tNil)) ρ (strsR K n) := fun F H σ s sl Q q =>
  h F H σ s sl _ fun v F1 H1 l1 ⟨xs, hx, r1⟩ => by
    cases r1 with
    | lst h1 a1 =>
      rw [a1.strs] at h1
      refine ⟨_, xs, rfl, .inl (sql_sub l1.s h1), by omega, fun ys p hp _ hn => q (.ref p) (upd F1 p _) _ (l1.trans (Le.new l1.s hn)) ⟨ys, by rw [hp.length_eq]; exact hx, .lst (SqL.of upd_same) (DatA.ofStrs ys)⟩⟩
end
theorem shp_thing {x : Str} {b c : Bool} (h : PyData.strOk x = true) : SeqAt.shaped (.tuple [.str x, .bool b, .bool c]) = true := by simp [SeqAt.shaped, PyData.canLay0, PyData.canLayAll0, PyData.depth, PyData.depthAll, h]
theorem shp_own {x : Str} (h : PyData.strOk x = true) : SeqAt.shaped (.tuple [.int 1, .str x]) = true := by simp [SeqAt.shaped, PyData.canLay0, PyData.canLayAll0, PyData.depth, PyData.depthAll, h]
theorem thing_flat {d : PyData} (h : thingD d) : d.hasDict = false ∧ SeqAt.shaped d = true := by
  rcases h with rfl | ⟨x, b, c, hx, rfl⟩
  · exact ⟨rfl, rfl⟩
  · exact ⟨rfl, shp_thing hx⟩
theorem own_flat {d : PyData} (h : ownD d) : d.hasDict = false ∧ SeqAt.shaped d = true := by
  rcases h with rfl | ⟨x, hx, rfl⟩
  · exact ⟨rfl, rfl⟩
  · exact ⟨rfl, shp_own hx⟩
theorem view_key {d : PyData} (h : viewD d) : keyOk d = true ∧ (keyN d).depth ≤ 8 ∧ ∃ ds, d = .tuple ds := by
  obtain ⟨t, o, b, n, rfl, ht, ho⟩ := h
  rcases ht with rfl | ⟨x, c, e, hx, rfl⟩ <;> rcases ho with rfl | ⟨y, hy, rfl⟩ <;> exact ⟨rfl, by simp [keyN, keyNs, NestedKey.depth, NestedKey.depthAll], _, rfl⟩
end LK
namespace K47
open PySem PySem.Spec PyProof.Rows L2 LK
section
variable {P : Program} {w : World} {h : Heap} {K : PySem.W.Frag} {mg : Str → Option Value} {base : Heap}
theorem ok_thing_conditions (T : Tx w h K mg) : FOk P w K mg base CX0 1 "thing_conditions" ["thing", "wants"] (spR (α := PyData × List Str) 2 (fun x F vs => thingD x.1 ∧ DatA K F [x.1, .tuple (x.2.map PyData.str)] vs) (fun _ F v => strsR K 3 F v)) := by
  obtain ⟨fd, F⟩ := T.d_thing_conditions
  refine ⟨T.g_thing_conditions, F.kp, fd, okR F sc_thing_conditions (fun x => [MP.d K x.1, MP.d K (.tuple (x.2.map PyData.str))]) (fun x F vs hl hp => slok_data hp.2) (fun cdv A outer s H E hr => ⟨_, (pss_cons (ps_if (pt_cmpR (kk_eqD (K := K) rfl hr.units) (pv 0) (pe_tup pa_nil) (nomark _)) (pss_one (ps_ret (pe_lst (pa_cons pe_str pa_nil)))) pss_nil)
    (pss_cons (ps_asg (pv 0) (kk_tup (K := K) (n := 3) rfl rfl (pgs_cons (pg_name (i := 2) sc_thing_conditions.nd rfl (.inl rfl)) (pgs_cons (pg_name (i := 3) sc_thing_conditions.nd rfl (.inl rfl)) (pgs_cons (pg_name (i := 4) sc_thing_conditions.nd rfl (.inl rfl)) pgs_nil)))))
    (pss_cons (ps_set (i := 5) sc_thing_conditions.nd rfl (.inl rfl) (pe_lst (pa_cons (pe_ifExp (pt_val (pv 3)) pe_str pe_str) (pa_cons (pe_ifExp (pt_val (pv 4)) pe_str pe_str) pa_nil))))
    (pss_one (ps_ret (pe_op (kk_catL (K := K) rfl) (pv 5) (pe_lst (pa_cons (pe_ifExp (pt_cmpR (kk_in_seq (K := K) rfl) (pv 2) (pv 1) rfl) pe_str pe_str) pa_nil)))))))), ?_⟩), F.bindsN fun _ _ _ _ _ _ us hl => match us, hl with | [_, _], _ => rfl⟩
  rintro ⟨t, ws⟩
  refine St.get (P := thingD t) (fun ht => ?_) fun F H ⟨vs, hp⟩ => hp.1
  refine St.pre (J := JT) ?_ fun _ _ _ => trivial
  rcases ht with rfl | ⟨x, b, c, hx, rfl⟩
  · exact q_ifret (b := true) (b_test ((e_eqD (e_dv (d := .tuple [])) (e_tup a_nil) rfl rfl rfl rfl).is rfl)) cl_T (fun _ => s_ret (e_strs (n := 3) (e_lst (a_cons e_str a_nil)) (by simp) (by decide)) cl_T fun _ _ _ _ r => r) (fun z => by cases z)
  · refine q_ifret (b := false) (b_test ((e_eqD (e_dv (d := .tuple [.str x, .bool b, .bool c])) (e_tup a_nil) rfl rfl (shp_thing hx) rfl).is rfl)) cl_T (fun z => by cases z) (fun _ => ?_)
    refine q_asgG (e_dv (d := .tuple [.str x, .bool b, .bool c])) (gt_tup (gs_cons gt_name (gs_cons gt_name (gs_cons gt_name gs_nil)))) cl_T ?_
    refine q_asg (m := MP.st K 2) (e_strs (e_lst (a_cons (e_ifD (b_tb (e_dv (d := .bool b))) e_str e_str) (a_cons (e_ifD (b_tb (e_dv (d := .bool c))) e_str e_str) a_nil)) (by show 2 ≤ sizeLine; decide)) (by simp [str_if]) (Nat.le_refl 2)) cl_T ?_
    exact s_ret (e_catS (m := 2) (n := 1) (e_var (m := MP.st K 2) rfl) (e_strs (e_lst (a_cons (e_ifD (b_test (e_inT (neg := false) (e_dv (d := .str x)) (e_dv (d := .tuple (ws.map PyData.str))) rfl (flat_strs ws))) e_str e_str) a_nil) (by show 1 ≤ sizeLine; decide)) (by simp [str_if]) (Nat.le_refl 1)) (by decide)) cl_T fun _ _ _ _ r => r
theorem ok_own_conditions (T : Tx w h K mg) : FOk P w K mg base CX0 1 "own_conditions" ["thing", "own"] (spR (α := PyData × PyData) 2 (fun x F vs => thingD x.1 ∧ ownD x.2 ∧ DatA K F [x.1, x.2] vs) (fun _ F v => strsR K 2 F v)) := by
  obtain ⟨fd, F⟩ := T.d_own_conditions
  refine ⟨T.g_own_conditions, F.kp, fd, okR F sc_own_conditions (fun x => [MP.d K x.1, MP.d K x.2]) (fun x F vs hl hp => slok_data hp.2.2) (fun cdv A outer s H E hr => ⟨_, (pss_cons (ps_if (pt_cmpR (kk_eqD (K := K) rfl hr.units) (pv 1) (pe_tup pa_nil) (nomark _)) (pss_one (ps_ret (pe_lst (pa_cons pe_str pa_nil)))) pss_nil)
    (pss_one (ps_ret (pe_lst (pa_cons pe_str (pa_cons (pe_ifExp (PW.pt (pw_and (pt_cmpR (kk_neD (K := K) rfl hr.units) (pv 0) (pe_tup pa_nil) (nomark _)) (pw_and1 (pt_cmpR op_eq (pe_ix (kk_ixT (K := K) rfl) (pv 1) pe_int (fun _ _ => rfl)) (pe_ix (kk_ixT (K := K) rfl) (pv 0) pe_int (fun _ _ => rfl)) (nomark _))))) pe_str pe_str) pa_nil)))))), ?_⟩), F.bindsN fun _ _ _ _ _ _ us hl => match us, hl with | [_, _], _ => rfl⟩
  rintro ⟨t, o⟩
  refine St.get (P := thingD t ∧ ownD o) (fun ⟨ht, ho⟩ => ?_) fun F H ⟨vs, hp⟩ => ⟨hp.1, hp.2.1⟩
  refine St.pre (J := JT) ?_ fun _ _ _ => trivial
  rcases ho with rfl | ⟨y, hy, rfl⟩
  · exact q_ifret (b := true) (b_test ((e_eqD (e_dv (d := .tuple [])) (e_tup a_nil) rfl rfl rfl rfl).is rfl)) cl_T (fun _ => s_ret (e_strs (e_lst (a_cons e_str a_nil)) (by simp) (by decide)) cl_T fun _ _ _ _ r => r) (fun z => by cases z)
  · refine q_ifret (b := false) (b_test ((e_eqD (e_dv (d := .tuple [.int 1, .str y])) (e_tup a_nil) rfl rfl (shp_own hy) rfl).is rfl)) cl_T (fun z => by cases z) (fun _ => ?_)
    rcases ht with rfl | ⟨x, b, c, hx, rfl⟩
    · exact s_ret (e_strs (e_lst (a_cons e_str (a_cons (e_ifD (b := false) ((b_and (b := true) (b_test ((e_neD (e_dv (d := .tuple [])) (e_tup a_nil) rfl rfl rfl rfl).is (by rfl : PyData.bool _ = .bool false))) (fun z => by cases z)).is rfl) e_str e_str) a_nil)) (by show 2 ≤ sizeLine; decide)) (by simp) (Nat.le_refl 2)) cl_T fun _ _ _ _ r => r
    · exact s_ret (e_strs (e_lst (a_cons e_str (a_cons (e_ifD (b := decide (y = x)) ((b_and (b_test ((e_neD (e_dv (d := .tuple [.str x, .bool b, .bool c])) (e_tup a_nil) rfl rfl (shp_thing hx) rfl).is (by rfl : PyData.bool _ = .bool true))) (fun _ => b_test (e_eqS (e_ixT (e_dv (d := .tuple [.int 1, .str y])) e_int rfl) (e_ixT (e_dv (d := .tuple [.str x, .bool b, .bool c])) e_int rfl)))).is (Bool.true_and _)) e_str e_str) a_nil)) (by show 2 ≤ sizeLine; decide)) (by simp [str_if]) (Nat.le_refl 2)) cl_T fun _ _ _ _ r => r
/-- at most seven texts -/
theorem ok_held_for (T : Tx w h K mg) : FOk P w K mg base CX0 2 "held_for" ["view", "wants"] (spR (α := PyData × List Str) 2 (fun x F vs => viewD x.1 ∧ DatA K F [x.1, .tuple (x.2.map PyData.str)] vs) (fun _ F v => strsR K 7 F v)) := by
  obtain ⟨fd, F⟩ := T.d_held_for
  refine ⟨T.g_held_for, F.kp, fd, okR F sc_held_for (fun x => [MP.d K x.1, MP.d K (.tuple (x.2.map PyData.str))]) (fun x F vs hl hp => slok_data hp.2) (fun cdv A outer s H E hr => ⟨_, (pss_cons (ps_asg (pv 0) (kk_tup (K := K) (n := 4) rfl rfl (pgs_cons (pg_name (i := 2) sc_held_for.nd rfl (.inl rfl)) (pgs_cons (pg_name (i := 3) sc_held_for.nd rfl (.inl rfl)) (pgs_cons (pg_name (i := 4) sc_held_for.nd rfl (.inl rfl)) (pgs_cons (pg_name (i := 5) sc_held_for.nd rfl (.inl rfl)) pgs_nil))))))
    (pss_cons (ps_set (i := 6) sc_held_for.nd rfl (.inl rfl) (pe_op (kk_catL (K := K) rfl) (LK.pe_fn (ok_thing_conditions T) (hr.mono (by decide)) pass0 (pa_cons (pv 2) (pa_cons (pv 1) pa_nil))) (LK.pe_fn (ok_own_conditions T) (hr.mono (by decide)) pass0 (pa_cons (pv 2) (pa_cons (pv 3) pa_nil)))))
    (pss_cons (ps_set (i := 6) sc_held_for.nd rfl (.inl rfl) (pe_op (kk_catL (K := K) rfl) (pv 6) (pe_lst (pa_cons (pe_ifExp (pt_val (pv 4)) pe_str pe_str) (pa_cons (pe_ifExp (pt_cmpR op_eq (pv 5) pe_int (nomark _)) pe_str pe_str) pa_nil)))))
    (pss_one (ps_ret (pe_callB (kk_sorted (K := K) rfl) (by rfl) T.f_sorted boot_sorted (pa_cons (pv 6) pa_nil))))))), ?_⟩), F.bindsN fun _ _ _ _ _ _ us hl => match us, hl with | [_, _], _ => rfl⟩
  rintro ⟨vw, ws⟩
  refine St.get (P := viewD vw) (fun hv => ?_) fun F H ⟨vs, hp⟩ => hp.1
  refine St.pre (J := JT) ?_ fun _ _ _ => trivial
  obtain ⟨t, o, b, n, rfl, ht, ho⟩ := hv
  refine q_asgG (e_dv (d := .tuple [t, o, .bool b, .int n])) (gt_tup (gs_cons gt_name (gs_cons gt_name (gs_cons gt_name (gs_cons gt_name gs_nil))))) cl_T ?_
  refine q_asg (m := MP.st K 5) (e_catS (m := 3) (n := 2) (e_callR (t, ws) ?_) (e_callR (t, o) ?_) (by decide)) cl_T ?_
  · exact fun F H σ s sl Q q => a_cons (e_dv (d := t)) (a_cons (e_dv (d := .tuple (ws.map PyData.str))) a_nil) F H σ s sl Q fun vs F2 H2 l r => q vs F2 H2 l ⟨by rw [← r.length]; rfl, ht, r⟩
  · exact fun F H σ s sl Q q => a_cons (e_dv (d := t)) (a_cons (e_dv (d := o)) a_nil) F H σ s sl Q fun vs F2 H2 l r => q vs F2 H2 l ⟨by rw [← r.length]; rfl, ht, ho, r⟩
  refine q_asg (m := MP.st K 7) (e_catS (m := 5) (n := 2) (e_var (m := MP.st K 5) rfl) (e_strs (e_lst (a_cons (e_ifD (b_tb (e_dv (d := .bool b))) e_str e_str) (a_cons (e_ifD (b_test (e_eqI (e_dv (d := .int n)) e_int)) e_str e_str) a_nil)) (by show 2 ≤ sizeLine; decide)) (by simp [str_if]) (Nat.le_refl 2)) (by decide)) cl_T ?_
  exact s_ret (e_sortS (e_var (m := MP.st K 7) rfl) (by decide)) cl_T fun _ _ _ _ r => r
/-- a tuple of different texts of some -/
theorem ok_are_different (T : Tx w h K mg) : FOk P w K mg base CX0 1 "are_different" ["things", "some"] (spD K 2 fun ds d => ∃ (xs ss : List Str), ds = [.tuple (xs.map PyData.str), .tuple (ss.map PyData.str)] ∧ xs.Nodup ∧ (∀ x ∈ xs, x ∈ ss) ∧ xs.length ≤ 100 ∧ d = .bool true) := by
  obtain ⟨fd, F⟩ := T.d_are_different
  refine ⟨T.g_are_different, F.kp, fd, okD F sc_are_different (fun cdv A outer s H E hr => ⟨_, (pss_cons (ps_if (PW.pt (pw_or (pt_not (pt_val (pe_callB (kk_isi (K := K) rfl) (by rfl) T.f_isinstance boot_isinstance (pa_cons (pv 0) (pa_cons (pe_bltn (v := .ty "tuple") (by rfl) T.f_tuple boot_tuple rfl) pa_nil))))) (pw_or1 (pt_not (pt_val (pe_callB (kk_all (K := K) rfl rfl) (by rfl) T.f_all boot_all (pa_cons (pe_lc (own := [("one", 2)]) rfl sc_are_different.nd (kk_pi_tup (K := K) rfl (pv 0)) (blkOk_by (N := ["things", "some", "one"]) (sc := defScope st_are_different) (by decide +kernel)) (fun _ _ _ _ _ => (pg_name (i := 2) sc_are_different.nd rfl (.inl rfl))) (fun _ _ _ _ _ => pts_nil) (fun _ _ _ _ _ => (pe_and (pe_callB (kk_isi (K := K) rfl) (by rfl) T.f_isinstance boot_isinstance (pa_cons (pv 2) (pa_cons (pe_bltn (v := .ty "str") (by rfl) T.f_str boot_str rfl) pa_nil))) (pe_one (pe_cmpR (kk_in_seq (K := K) rfl) (pv 2) (pv 1) rfl))))) pa_nil))))))) (pss_one (ps_ret pe_bl)) pss_nil)
    (pss_one (ps_ret (pe_cmpR op_eq (kk_lenSet (K := K) rfl rfl (by rfl) T.f_len (by rfl) T.f_set (pv 0)) (pe_callB (kk_len (K := K) rfl) (by rfl) T.f_len boot_len (pa_cons (pv 0) pa_nil)) (nomark _))))), ?_⟩), F.bindsN fun _ _ _ _ _ _ us hl => match us, hl with | [_, _], _ => rfl⟩
  rintro ds d hl ⟨xs, ss, rfl, hnd, hin, hz, rfl⟩
  refine q_ifret (b := false) ((b_or (a := false) (b := false) ((b_not (b_tb ((e_isi (e_dv (d := .tuple (xs.map PyData.str))) (kit_tuple _)).is (congrArg PyData.bool (isi_tuple _))))).is rfl) (fun _ => (b_not (b_tb ((e_all (bs := xs.map fun _ => true) ((e_lcm (ns := [2]) (up := fun d ρ => ρ.set 2 (some (MP.d K d))) (fun _ => .bool true) (src_tup (e_dv (d := .tuple (xs.map PyData.str)))) (fun d => gt_name) (fun _ h => h) (by rw [List.length_map]; exact sz_lt (by omega)) (fun d hd => ?_)).is (by rw [List.map_map, List.map_map]; rfl))).is (all_true xs)))).is rfl)).is rfl) cl_T (fun z => by cases z) (fun _ => ?_)
  · obtain ⟨x, hx, rfl⟩ := List.mem_map.mp hd
    exact (e_andB (a := true) (b := true) ((e_isi (e_dv (d := .str x)) (kit_str _)).is (congrArg PyData.bool (isi_str _))) (fun _ => (e_inT (neg := false) (e_dv (d := .str x)) (e_dv (d := .tuple (ss.map PyData.str))) rfl (flat_strs ss)).is (by rw [inD_str]; simp [hin x hx])))
  · refine s_retD ((e_eqI (e_lenSet (xs := xs) (e_dv (d := .tuple (xs.map PyData.str))) rfl (by omega)) (e_lenA (e_dv (d := .tuple (xs.map PyData.str))) rfl)).is ?_)
    have e := (cntS_full xs xs.length (Nat.le_refl _)).mpr (by rw [List.take_length]; exact hnd)
    rw [e, List.length_map]
    simp
/-- ('turn', word) or (one of the plain deeds,) -/
def deedD (d : PyData) : Prop := (∃ x : Str, wordS x = true ∧ d = .tuple [.str "turn", .str x]) ∨ ∃ x : Str, x ∈ plainS ∧ d = .tuple [.str x]
theorem ok_is_deed (T : Tx w h K mg) : FOk P w K mg base CX0 2 "is_deed" ["value"] (spD K 1 fun ds d => ∃ v, ds = [v] ∧ deedD v ∧ d = .bool true) := by
  obtain ⟨fd, F⟩ := T.d_is_deed
  refine ⟨T.g_is_deed, F.kp, fd, okD F sc_is_deed (fun cdv A outer s H E hr => ⟨_, (pss_cons (ps_if (PW.pt (pw_or (pt_not (pt_val (pe_callB (kk_isi (K := K) rfl) (by rfl) T.f_isinstance boot_isinstance (pa_cons (pv 0) (pa_cons (pe_bltn (v := .ty "tuple") (by rfl) T.f_tuple boot_tuple rfl) pa_nil))))) (pw_or (pt_cmpR (kk_eqD (K := K) rfl hr.units) (pv 0) (pe_tup pa_nil) (nomark _)) (pw_or1 (pt_not (pt_val (pe_callB (kk_isi (K := K) rfl) (by rfl) T.f_isinstance boot_isinstance (pa_cons (pe_ix (kk_ixT (K := K) rfl) (pv 0) pe_int (fun _ _ => rfl)) (pa_cons (pe_bltn (v := .ty "str") (by rfl) T.f_str boot_str rfl) pa_nil))))))))) (pss_one (ps_ret pe_bl)) pss_nil)
    (pss_cons (ps_if (pt_cmpR op_eq (pe_ix (kk_ixT (K := K) rfl) (pv 0) pe_int (fun _ _ => rfl)) T.e_TURN (nomark _)) (pss_one (ps_ret (pe_and (pe_cmpR op_eq (pe_callB (kk_len (K := K) rfl) (by rfl) T.f_len boot_len (pa_cons (pv 0) pa_nil)) pe_int (nomark _)) (pe_one (LK.pe_fn (ok_is_word T) (hr.mono (by decide)) pass0 (pa_cons (pe_ix (kk_ixT (K := K) rfl) (pv 0) pe_int (fun _ _ => rfl)) pa_nil)))))) pss_nil)
    (pss_one (ps_ret (pe_and (pe_cmpR op_eq (pe_callB (kk_len (K := K) rfl) (by rfl) T.f_len boot_len (pa_cons (pv 0) pa_nil)) pe_int (nomark _)) (pe_one (pe_cmpR (kk_in_seq (K := K) rfl) (pe_ix (kk_ixT (K := K) rfl) (pv 0) pe_int (fun _ _ => rfl)) T.e_PLAIN_DEEDS rfl))))))), ?_⟩), F.bindsN fun _ _ _ _ _ _ us hl => match us, hl with | [_], _ => rfl⟩
  rintro ds d hl ⟨v, rfl, hv, rfl⟩
  rcases hv with ⟨x, hx, rfl⟩ | ⟨x, hx, rfl⟩
  · refine q_ifret (b := false) ((b_or (a := false) (b := false) ((b_not (b_tb ((e_isi (e_dv (d := .tuple [.str "turn", .str x])) (kit_tuple _)).is (congrArg PyData.bool (isi_tuple _))))).is rfl) (fun _ => (b_or (a := false) (b := false) (b_test ((e_eqD (e_dv (d := .tuple [.str "turn", .str x])) (e_tup a_nil) rfl rfl ?_ rfl).is rfl)) (fun _ => (b_not (b_tb ((e_isi (e_ixT (e_dv (d := .tuple [.str "turn", .str x])) e_int rfl) (kit_str _)).is (congrArg PyData.bool (isi_str _))))).is rfl)).is rfl)).is rfl) cl_T (fun z => by cases z) (fun _ => ?_)
    · exact shp_turn hx
    · refine q_ifret (b := true) (b_test ((e_eqS (e_ixT (e_dv (d := .tuple [.str "turn", .str x])) e_int rfl) e_str).is rfl)) cl_T (fun _ => s_retD ?_) (fun z => by cases z)
      exact e_andB (a := true) (b := true) ((e_eqI (e_lenA (e_dv (d := .tuple [.str "turn", .str x])) rfl) e_int).is rfl) (fun _ => e_call (a_cons (e_ixT (e_dv (d := .tuple [.str "turn", .str x])) e_int rfl) a_nil) ⟨_, rfl, fun y e => by cases e; exact word_len hx, congrArg PyData.bool hx.symm⟩)
  · refine q_ifret (b := false) ((b_or (a := false) (b := false) ((b_not (b_tb ((e_isi (e_dv (d := .tuple [.str x])) (kit_tuple _)).is (congrArg PyData.bool (isi_tuple _))))).is rfl) (fun _ => (b_or (a := false) (b := false) (b_test ((e_eqD (e_dv (d := .tuple [.str x])) (e_tup a_nil) rfl rfl (shp_plain hx) rfl).is rfl)) (fun _ => (b_not (b_tb ((e_isi (e_ixT (e_dv (d := .tuple [.str x])) e_int rfl) (kit_str _)).is (congrArg PyData.bool (isi_str _))))).is rfl)).is rfl)).is rfl) cl_T (fun z => by cases z) (fun _ => ?_)
    refine q_ifret (b := false) (b_test ((e_eqS (e_ixT (e_dv (d := .tuple [.str x])) e_int rfl) e_str).is (congrArg PyData.bool (decide_eq_false (plain_turn hx))))) cl_T (fun z => by cases z) (fun _ => s_retD ?_)
    exact e_andB (a := true) (b := true) ((e_eqI (e_lenA (e_dv (d := .tuple [.str x])) rfl) e_int).is rfl) (fun _ => (e_inT (neg := false) (d := .str x) (ds := plainS.map PyData.str) (e_ixT (e_dv (d := .tuple [.str x])) e_int rfl) (e_cd fun F => .tup (T.t_PLAIN_DEEDS F) (DatA.ofStrs plainS)) rfl (LK.flat_strs plainS)).is (by rw [inD_str]; simp [hx]))
end
end K47

set_option Elab.async false
set_option linter.all false
set_option maxRecDepth 100000
set_option maxHeartbeats 4000000
/-! PD47c: rules, wants, views. -/
namespace LK
open PySem PySem.Spec PyProof.Rows L2
def ruleD (d : PyData) : Prop := ∃ (ss cs : List Str) (dd : PyData), d = .tuple [.tuple (ss.map PyData.str), dd, .tuple (cs.map PyData.str)] ∧ (ss.Nodup ∧ (∀ x ∈ ss, x ∈ condsS) ∧ ss.length ≤ 6) ∧ K47.deedD dd ∧ cs.Nodup ∧ (∀ x ∈ cs, x ∈ partsS) ∧ cs.length ≤ 4
/-- at most three different words -/
def wantsS (xs : List Str) : Prop := xs.Nodup ∧ (∀ x ∈ xs, wordS x = true) ∧ xs.length ≤ 3
def thingsD (xs : List Str) : List PyData := .tuple [] :: (xs.map PyData.str).flatMap fun w => [PyData.bool false, .bool true].flatMap fun g => [PyData.bool false, .bool true].flatMap fun h => [.tuple [w, g, h]]
def ownsD (xs : List Str) : List PyData := .tuple [] :: (xs.map PyData.str).map fun w => .tuple [.int 1, w]
def viewsD (xs : List Str) : List PyData := (thingsD xs).flatMap fun t => (ownsD xs).flatMap fun o => [PyData.bool false, .bool true].flatMap fun b => [PyData.int 0, .int 2].flatMap fun n => [.tuple [t, o, b, n]]
theorem things_thing {xs : List Str} (h : ∀ x ∈ xs, PyData.strOk x = true) : ∀ d ∈ thingsD xs, thingD d := by
  intro d hd
  unfold thingsD at hd
  simp only [List.mem_cons, List.mem_flatMap, List.mem_map, List.not_mem_nil, or_false] at hd
  rcases hd with rfl | ⟨_, ⟨x, hx, rfl⟩, g, hg, k, hk, rfl⟩
  · exact .inl rfl
  · rcases hg with rfl | rfl <;> rcases hk with rfl | rfl <;> exact .inr ⟨x, _, _, h x hx, rfl⟩
theorem owns_own {xs : List Str} (h : ∀ x ∈ xs, PyData.strOk x = true) : ∀ d ∈ ownsD xs, ownD d := by
  intro d hd
  unfold ownsD at hd
  simp only [List.mem_cons, List.mem_map] at hd
  rcases hd with rfl | ⟨_, ⟨x, hx, rfl⟩, rfl⟩
  · exact .inl rfl
  · exact .inr ⟨x, h x hx, rfl⟩
theorem views_view {xs : List Str} (h : ∀ x ∈ xs, PyData.strOk x = true) : ∀ d ∈ viewsD xs, viewD d := by
  intro d hd
  unfold viewsD at hd
  simp only [List.mem_cons, List.mem_flatMap, List.not_mem_nil, or_false] at hd
  obtain ⟨t, ht, o, ho, b, hb, n, hn, rfl⟩ := hd
  rcases hb with rfl | rfl <;> rcases hn with rfl | rfl <;> exact ⟨t, o, _, _, rfl, things_thing h t ht, owns_own h o ho⟩
theorem views_len {xs : List Str} (h : xs.length ≤ 3) : (viewsD xs).length ≤ 208 ∧ (thingsD xs).length ≤ 13 ∧ (ownsD xs).length ≤ 4 := by
  match xs, h with
  | [], _ => exact ⟨by show 4 ≤ 208; decide, by show 1 ≤ 13; decide, by show 1 ≤ 4; decide⟩
  | [a], _ => exact ⟨by show 40 ≤ 208; decide, by show 5 ≤ 13; decide, by show 2 ≤ 4; decide⟩
  | [a, b], _ => exact ⟨by show 108 ≤ 208; decide, by show 9 ≤ 13; decide, by show 3 ≤ 4; decide⟩
  | [a, b, c], _ => exact ⟨by show 208 ≤ 208; decide, by show 13 ≤ 13; decide, by show 4 ≤ 4; decide⟩
end LK
namespace K47
open PySem PySem.Spec PyProof.Rows L2 LK
section
variable {P : Program} {w : World} {h : Heap} {K : PySem.W.Frag} {mg : Str → Option Value} {base : Heap}
theorem ok_is_rule (T : Tx w h K mg) : FOk P w K mg base CX0 3 "is_rule" ["value"] (spD K 1 fun ds d => ∃ v, ds = [v] ∧ ruleD v ∧ d = .bool true) := by
  obtain ⟨fd, F⟩ := T.d_is_rule
  refine ⟨T.g_is_rule, F.kp, fd, okD F sc_is_rule (fun cdv A outer s H E hr => ⟨_, (pss_cons (ps_if (PW.pt (pw_or (pt_not (pt_val (pe_callB (kk_isi (K := K) rfl) (by rfl) T.f_isinstance boot_isinstance (pa_cons (pv 0) (pa_cons (pe_bltn (v := .ty "tuple") (by rfl) T.f_tuple boot_tuple rfl) pa_nil))))) (pw_or1 (pt_cmpR op_ne (pe_callB (kk_len (K := K) rfl) (by rfl) T.f_len boot_len (pa_cons (pv 0) pa_nil)) pe_int (nomark _))))) (pss_one (ps_ret pe_bl)) pss_nil)
    (pss_cons (ps_asg (pv 0) (kk_tup (K := K) (n := 3) rfl rfl (pgs_cons (pg_name (i := 1) sc_is_rule.nd rfl (.inl rfl)) (pgs_cons (pg_name (i := 2) sc_is_rule.nd rfl (.inl rfl)) (pgs_cons (pg_name (i := 3) sc_is_rule.nd rfl (.inl rfl)) pgs_nil)))))
    (pss_one (ps_ret (pe_and (LK.pe_fn (ok_are_different T) (hr.mono (by decide)) pass0 (pa_cons (pv 1) (pa_cons T.e_CONDITIONS pa_nil))) (pe_and (pe_cmpR op_le (pe_callB (kk_len (K := K) rfl) (by rfl) T.f_len boot_len (pa_cons (pv 1) pa_nil)) T.e_MOST_CONDITIONS (nomark _)) (pe_and (LK.pe_fn (ok_is_deed T) (hr.mono (by decide)) pass0 (pa_cons (pv 2) pa_nil)) (pe_one (LK.pe_fn (ok_are_different T) (hr.mono (by decide)) pass0 (pa_cons (pv 3) (pa_cons T.e_PARTS pa_nil))))))))))), ?_⟩), F.bindsN fun _ _ _ _ _ _ us hl => match us, hl with | [_], _ => rfl⟩
  rintro ds d hl ⟨v, rfl, ⟨ss, cs, dd, rfl, ⟨h1, h2, h3⟩, h4, h5, h6, h7⟩, rfl⟩
  refine q_ifret (b := false) ((b_or (a := false) (b := false) ((b_not (b_tb ((e_isi (e_dv (d := .tuple [.tuple (ss.map PyData.str), dd, .tuple (cs.map PyData.str)])) (kit_tuple _)).is (congrArg PyData.bool (isi_tuple _))))).is rfl) (fun _ => b_test ((e_neI (e_lenA (e_dv (d := .tuple [.tuple (ss.map PyData.str), dd, .tuple (cs.map PyData.str)])) rfl) e_int).is rfl))).is rfl) cl_T (fun z => by cases z) (fun _ => ?_)
  refine q_asgG (e_dv (d := .tuple [.tuple (ss.map PyData.str), dd, .tuple (cs.map PyData.str)])) (gt_tup (gs_cons gt_name (gs_cons gt_name (gs_cons gt_name gs_nil)))) cl_T ?_
  refine s_retD (e_andB (a := true) (b := true) (e_call (a_cons (e_dv (d := .tuple (ss.map PyData.str))) (a_cons (e_cd fun F => .tup (T.t_CONDITIONS F) (DatA.ofStrs condsS)) a_nil)) ⟨ss, condsS, rfl, h1, h2, by omega, rfl⟩) (fun _ => e_andB (a := true) (b := true) ((e_B0 (e_lenA (e_dv (d := .tuple (ss.map PyData.str))) rfl) e_int).is ?_) (fun _ => e_andB (a := true) (b := true) (e_call (a_cons (e_dv (d := dd)) a_nil) ⟨dd, rfl, h4, rfl⟩) (fun _ => e_call (a_cons (e_dv (d := .tuple (cs.map PyData.str))) (a_cons (e_cd fun F => .tup (T.t_PARTS F) (DatA.ofStrs partsS)) a_nil)) ⟨cs, partsS, rfl, h5, h6, by omega, rfl⟩))))
  rw [List.length_map]
  exact congrArg PyData.bool (decide_eq_true (by omega))
theorem ok_are_wants (T : Tx w h K mg) : FOk P w K mg base CX0 2 "are_wants" ["value"] (spD K 1 fun ds d => ∃ (v : PyData) (xs : List Str), ds = [v] ∧ itemsD v = some (xs.map PyData.str) ∧ wantsS xs ∧ d = .bool true) := by
  obtain ⟨fd, F⟩ := T.d_are_wants
  refine ⟨T.g_are_wants, F.kp, fd, okD F sc_are_wants (fun cdv A outer s H E hr => ⟨_, (pss_cons (ps_if (PW.pt (pw_or (pt_not (pt_val (LK.pe_fn (ok_is_list T) (hr.mono (by decide)) pass0 (pa_cons (pv 0) pa_nil)))) (pw_or (pt_cmpR op_gt (pe_callB (kk_len (K := K) rfl) (by rfl) T.f_len boot_len (pa_cons (pv 0) pa_nil)) T.e_MOST_WANTS (nomark _)) (pw_or1 (pt_not (pt_val (pe_callB (kk_all (K := K) rfl rfl) (by rfl) T.f_all boot_all (pa_cons (pe_lc (own := [("word", 1)]) rfl sc_are_wants.nd (kk_pi_seq (K := K) rfl (pv 0)) (blkOk_by (N := ["value", "word"]) (sc := defScope st_are_wants) (by decide +kernel)) (fun _ _ _ _ _ => (pg_name (i := 1) sc_are_wants.nd rfl (.inl rfl))) (fun _ _ _ _ _ => pts_nil) (fun _ _ _ _ _ => (LK.pe_fn (ok_is_word T) (hr.mono (by decide)) pass0 (pa_cons (pv 1) pa_nil)))) pa_nil)))))))) (pss_one (ps_ret pe_bl)) pss_nil)
    (pss_one (ps_ret (pe_cmpR op_eq (kk_lenSet (K := K) rfl rfl (by rfl) T.f_len (by rfl) T.f_set (pv 0)) (pe_callB (kk_len (K := K) rfl) (by rfl) T.f_len boot_len (pa_cons (pv 0) pa_nil)) (nomark _))))), ?_⟩), F.bindsN fun _ _ _ _ _ _ us hl => match us, hl with | [_], _ => rfl⟩
  rintro ds d hl ⟨v, xs, rfl, hv, ⟨h1, h2, h3⟩, rfl⟩
  have hlist : listD v = true := by cases v <;> first | rfl | cases hv
  refine q_ifret (b := false) ((b_or (a := false) (b := false) ((b_not (b_tb (e_call (d := .bool (listD v)) (a_cons (e_dv (d := v)) a_nil) ⟨v, rfl, rfl⟩))).is (by rw [hlist]; rfl)) (fun _ => (b_or (a := false) (b := false) (b_test ((e_B0 (e_lenA (e_dv (d := v)) hv) e_int).is (congrArg PyData.bool (decide_eq_false (by rw [List.length_map]; omega))))) (fun _ => (b_not (b_tb ((e_all (bs := xs.map fun _ => true) ((e_lcm (ns := [1]) (up := fun d ρ => ρ.set 1 (some (MP.d K d))) (fun _ => .bool true) (src_seq (e_dv (d := v)) hv) (fun d => gt_name) (fun _ h => h) (by rw [List.length_map]; exact sz_lt (by omega)) (fun d hd => ?_)).is (by rw [List.map_map, List.map_map]; rfl))).is (all_true xs)))).is rfl)).is rfl)).is rfl) cl_T (fun z => by cases z) (fun _ => ?_)
  · obtain ⟨x, hx, rfl⟩ := List.mem_map.mp hd
    exact e_call (a_cons (e_dv (d := .str x)) a_nil) ⟨.str x, rfl, fun y e => by cases e; exact word_len (h2 x hx), congrArg PyData.bool (h2 x hx).symm⟩
  · refine s_retD ((e_eqI (e_lenSet (xs := xs) (e_dv (d := v)) hv (by omega)) (e_lenA (e_dv (d := v)) hv)).is ?_)
    have e := (cntS_full xs xs.length (Nat.le_refl _)).mpr (by rw [List.take_length]; exact h1)
    rw [e, List.length_map]
    simp
theorem ok_things_of (T : Tx w h K mg) : FOk P w K mg base CX0 1 "things_of" ["words"] (spD K 1 fun ds d => ∃ xs : List Str, ds = [.list (xs.map PyData.str)] ∧ xs.length ≤ 3 ∧ d = .list (thingsD xs)) := by
  obtain ⟨fd, F⟩ := T.d_things_of
  refine ⟨T.g_things_of, F.kp, fd, okD F sc_things_of (fun cdv A outer s H E hr => ⟨_, (pss_one (ps_ret (pe_op (kk_catL (K := K) rfl) (pe_lst (pa_cons (pe_tup pa_nil) pa_nil)) (pe_lcN (own := [("word", 1), ("is_going", 2), ("is_held", 3)]) (cs := [(_, ⟨_, _, _, [2, 3]⟩), (_, ⟨_, _, _, [3]⟩)]) rfl sc_things_of.nd (kk_pi_list (K := K) rfl (pv 0)) (blkOk_by (N := ["words", "word", "is_going", "is_held"]) (sc := defScope st_things_of) (by decide +kernel)) (by simp [LK.nest]) (fun _ _ _ _ _ => (pg_name (i := 1) sc_things_of.nd rfl (.inl rfl))) (fun _ _ _ _ _ => pts_nil) (by exact fun _ _ _ _ _ => (clIn_cons ⟨⟨rfl, (pg_name (i := 2) sc_things_of.nd rfl (.inl rfl)), pts_nil⟩, (kk_pi_tup (K := K) rfl (pe_tup (pa_cons pe_bl (pa_cons pe_bl pa_nil)))), fun _ => rfl⟩ (clIn_cons ⟨⟨rfl, (pg_name (i := 3) sc_things_of.nd rfl (.inl rfl)), pts_nil⟩, (kk_pi_tup (K := K) rfl (pe_tup (pa_cons pe_bl (pa_cons pe_bl pa_nil)))), fun _ => rfl⟩ clIn_nil))) (fun _ _ _ _ _ => (pe_tup (pa_cons (pv 1) (pa_cons (pv 2) (pa_cons (pv 3) pa_nil))))) rfl)))), ?_⟩), F.bindsN fun _ _ _ _ _ _ us hl => match us, hl with | [_], _ => rfl⟩
  rintro ds d hl ⟨xs, rfl, hz, rfl⟩
  have hsz := (views_len hz).2.1
  have h13 : (13 : Nat) ≤ sizeLine := by decide
  refine s_retD (e_catL (ds := [.tuple []]) (es := (xs.map PyData.str).flatMap fun w => [PyData.bool false, .bool true].flatMap fun g => [PyData.bool false, .bool true].flatMap fun h => [.tuple [w, g, h]]) (e_lst (a_cons (e_tup a_nil) a_nil) (by show 1 ≤ sizeLine; decide)) (e_lcNY (ns := [1]) (up := fun d ρ => ρ.set 1 (some (MP.d K d))) _ (src_list (e_dv (d := .list (xs.map PyData.str)))) (fun d => gt_name) (by simp) rfl (fun w _ => ?_) (by unfold thingsD at hsz; rw [List.length_cons] at hsz; omega)) (by unfold thingsD at hsz; rw [List.length_cons] at hsz; show 1 + _ ≤ _; omega))
  refine shl_clsY (ns := [2]) (up := fun d ρ => ρ.set 2 (some (MP.d K d))) _ (src_tup (e_tup (a_cons e_bl (a_cons e_bl a_nil)))) (fun d => gt_name) (by simp) rfl (fun g _ => ?_)
  refine shl_clsY (ns := [3]) (up := fun d ρ => ρ.set 3 (some (MP.d K d))) _ (src_tup (e_tup (a_cons e_bl (a_cons e_bl a_nil)))) (fun d => gt_name) (by simp) rfl (fun h _ => ?_)
  exact shl_leaf (e_tup (a_cons (e_dv (d := w)) (a_cons (e_dv (d := g)) (a_cons (e_dv (d := h)) a_nil))) (by show 3 ≤ sizeLine; decide))
theorem ok_views_of (T : Tx w h K mg) : FOk P w K mg base CX0 2 "views_of" ["words"] (spD K 1 fun ds d => ∃ xs : List Str, ds = [.list (xs.map PyData.str)] ∧ xs.length ≤ 3 ∧ d = .list (viewsD xs)) := by
  obtain ⟨fd, F⟩ := T.d_views_of
  refine ⟨T.g_views_of, F.kp, fd, okD F sc_views_of (fun cdv A outer s H E hr => ⟨_, (pss_cons (ps_set (i := 1) sc_views_of.nd rfl (.inr rfl) (pe_op (kk_catL (K := K) rfl) (pe_lst (pa_cons (pe_tup pa_nil) pa_nil)) (pe_lc (own := [("word", 2)]) rfl sc_views_of.nd (kk_pi_list (K := K) rfl (pv 0)) (blkOk_by (N := ["words", "owns", "word", "thing", "own", "other", "stray"]) (sc := defScope st_views_of) (by decide +kernel)) (fun _ _ _ _ _ => (pg_name (i := 2) sc_views_of.nd rfl (.inl rfl))) (fun _ _ _ _ _ => pts_nil) (fun _ _ _ _ _ => (pe_tup (pa_cons pe_int (pa_cons (pv 2) pa_nil)))))))
    (pss_one (ps_ret (pe_lcN (own := [("thing", 3), ("own", 4), ("other", 5), ("stray", 6)]) (cs := [(_, ⟨_, _, _, [4, 5, 6]⟩), (_, ⟨_, _, _, [5, 6]⟩), (_, ⟨_, _, _, [6]⟩)]) rfl sc_views_of.nd (kk_pi_list (K := K) rfl (LK.pe_fn (ok_things_of T) (hr.mono (by decide)) pass0 (pa_cons (pv 0) pa_nil))) (blkOk_by (N := ["words", "owns", "word", "thing", "own", "other", "stray"]) (sc := defScope st_views_of) (by decide +kernel)) (by simp [LK.nest]) (fun _ _ _ _ _ => (pg_name (i := 3) sc_views_of.nd rfl (.inl rfl))) (fun _ _ _ _ _ => pts_nil) (by exact fun _ _ _ _ _ => (clIn_cons ⟨⟨rfl, (pg_name (i := 4) sc_views_of.nd rfl (.inl rfl)), pts_nil⟩, (kk_pi_list (K := K) rfl (pv 1)), fun _ => rfl⟩ (clIn_cons ⟨⟨rfl, (pg_name (i := 5) sc_views_of.nd rfl (.inl rfl)), pts_nil⟩, (kk_pi_tup (K := K) rfl (pe_tup (pa_cons pe_bl (pa_cons pe_bl pa_nil)))), fun _ => rfl⟩ (clIn_cons ⟨⟨rfl, (pg_name (i := 6) sc_views_of.nd rfl (.inl rfl)), pts_nil⟩, (kk_pi_tup (K := K) rfl (pe_tup (pa_cons pe_int (pa_cons pe_int pa_nil)))), fun _ => rfl⟩ clIn_nil)))) (fun _ _ _ _ _ => (pe_tup (pa_cons (pv 3) (pa_cons (pv 4) (pa_cons (pv 5) (pa_cons (pv 6) pa_nil)))))) rfl)))), ?_⟩), F.bindsN fun _ _ _ _ _ _ us hl => match us, hl with | [_], _ => rfl⟩
  rintro ds d hl ⟨xs, rfl, hz, rfl⟩
  have hsz := (views_len hz).1
  have hso := (views_len hz).2.2
  have h13 : (208 : Nat) ≤ sizeLine := by decide
  refine q_asgD (d := .list (ownsD xs)) (e_catL (ds := [.tuple []]) (es := (xs.map PyData.str).map fun w => .tuple [.int 1, w]) (e_lst (a_cons (e_tup a_nil) a_nil) (by show 1 ≤ sizeLine; decide)) (e_lcm (ns := [2]) (up := fun d ρ => ρ.set 2 (some (MP.d K d))) (fun w => .tuple [.int 1, w]) (src_list (e_dv (d := .list (xs.map PyData.str)))) (fun d => gt_name) (fun _ h => h) (by rw [List.length_map]; exact sz_lt (by omega)) (fun d hd => e_tup (a_cons e_int (a_cons (e_dv (d := d)) a_nil)) (by show 2 ≤ sizeLine; decide))) (by unfold ownsD at hso; rw [List.length_cons] at hso; show 1 + _ ≤ _; omega)) cl_T ?_
  refine s_retD (e_lcNY (ns := [3]) (up := fun d ρ => ρ.set 3 (some (MP.d K d))) _ (src_list (e_call (d := .list (thingsD xs)) (a_cons (e_dv (d := .list (xs.map PyData.str))) a_nil) ⟨xs, rfl, hz, rfl⟩)) (fun d => gt_name) (by simp) rfl (fun t _ => ?_) (by unfold viewsD at hsz; omega))
  refine shl_clsY (ns := [4]) (up := fun d ρ => ρ.set 4 (some (MP.d K d))) _ (src_list (e_dv (d := .list (ownsD xs)))) (fun d => gt_name) (by simp) rfl (fun o _ => ?_)
  refine shl_clsY (ns := [5]) (up := fun d ρ => ρ.set 5 (some (MP.d K d))) _ (src_tup (e_tup (a_cons e_bl (a_cons e_bl a_nil)))) (fun d => gt_name) (by simp) rfl (fun b _ => ?_)
  refine shl_clsY (ns := [6]) (up := fun d ρ => ρ.set 6 (some (MP.d K d))) _ (src_tup (e_tup (a_cons e_int (a_cons e_int a_nil)))) (fun d => gt_name) (by simp) rfl (fun n _ => ?_)
  exact shl_leaf (e_tup (a_cons (e_dv (d := t) (by simp [LK.wipeR, LK.st0, LK.up3, LK.upAR])) (a_cons (e_dv (d := o) (by simp [LK.wipeR, LK.st0, LK.up3, LK.upAR])) (a_cons (e_dv (d := b) (by simp [LK.wipeR, LK.st0, LK.up3, LK.upAR])) (a_cons (e_dv (d := n) (by simp [LK.wipeR, LK.st0, LK.up3, LK.upAR])) a_nil)))) (by show 4 ≤ sizeLine; decide))
end
end K47

set_option Elab.async false
set_option linter.all false
set_option maxRecDepth 100000
set_option maxHeartbeats 4000000
/-! PD47d: the class Keeper. -/
namespace LK
open PySem PySem.Spec PyProof.Rows L2
/-- name, wants, rules of a keeper -/
structure Kd where
  nm : Str
  ws : List Str
  rs : List PyData
def Kd.ok (y : Kd) : Prop := wordS y.nm = true ∧ wantsS y.ws ∧ (∀ r ∈ y.rs, ruleD r) ∧ y.rs.length ≤ 8
def Kd.ms (K : PySem.W.Frag) (y : Kd) : List (Str × MP) := [("own_name", MP.d K (.str y.nm)), ("own_wants", MP.d K (.tuple (y.ws.map PyData.str))), ("own_rules", MP.d K (.tuple y.rs))]
def Kd.mp (K : PySem.W.Frag) (y : Kd) : MP := MP.o (He.ga K "Keeper") (y.ms K)
theorem wants_perm {xs ys : List Str} (h : wantsS xs) (p : ys.Perm xs) : wantsS ys := ⟨p.nodup_iff.mpr h.1, fun x hx => h.2.1 x (p.mem_iff.mp hx), by rw [p.length_eq]; exact h.2.2⟩
theorem rule_perm {ss cs ss' cs' : List Str} {dd : PyData} (h : ruleD (.tuple [.tuple (ss.map PyData.str), dd, .tuple (cs.map PyData.str)])) (p : ss'.Perm ss) (q : cs'.Perm cs) : ruleD (.tuple [.tuple (ss'.map PyData.str), dd, .tuple (cs'.map PyData.str)]) := by
  have inj : ∀ {a b : List Str}, a.map PyData.str = b.map PyData.str → a = b := fun {a b} e => by
    have := congrArg (List.map fun d => match d with | PyData.str x => x | _ => "") e
    simpa [List.map_map, Function.comp_def] using this
  obtain ⟨s1, c1, d1, e, ⟨h1, h2, h3⟩, h4, h5, h6, h7⟩ := h
  have e1 := PyData.tuple.inj e
  have a1 := List.cons.inj e1
  have a2 := List.cons.inj a1.2
  have a3 := List.cons.inj a2.2
  obtain rfl := inj (PyData.tuple.inj a1.1)
  obtain rfl := inj (PyData.tuple.inj a3.1)
  obtain rfl := a2.1
  exact ⟨ss', cs', dd, rfl, ⟨p.nodup_iff.mpr h1, fun x hx => h2 x (p.mem_iff.mp hx), by rw [p.length_eq]; exact h3⟩, h4, q.nodup_iff.mpr h5, fun x hx => h6 x (q.mem_iff.mp hx), by rw [q.length_eq]; exact h7⟩
/-- what __init__ gets -/
structure Ki where
  nm : Str
  wv : PyData
  ws : List Str
  rv : PyData
  rs : List PyData
def Ki.ok (x : Ki) : Prop := wordS x.nm = true ∧ itemsD x.wv = some (x.ws.map PyData.str) ∧ wantsS x.ws ∧ itemsD x.rv = some x.rs ∧ (∀ r ∈ x.rs, ruleD r) ∧ x.rs.length ≤ 8
def Ki.gives (x : Ki) (y : Kd) : Prop := y.nm = x.nm ∧ y.ok ∧ y.rs.length = x.rs.length
abbrev spKi (K : PySem.W.Frag) : Sp := spIX (He.ga K "Keeper") (α := Ki) (β := Kd) 4 (fun x F vs => x.ok ∧ DatA K F [.str x.nm, x.wv, x.rv] vs) Ki.gives (fun _ y => y.ms K)
end LK
namespace K47
open PySem PySem.Spec PyProof.Rows L2 LK
section
variable {P : Program} {w : World} {h : Heap} {K : PySem.W.Frag} {mg : Str → Option Value} {base : Heap}
theorem ok_Keeper_init (T : Tx w h K mg) : MOk P w K mg base CX0 4 (He.ma K (He.ga K "Keeper") "__init__") ["self", "name", "wants", "rules"] (spKi K) := by
  obtain ⟨fd, F⟩ := T.d_Keeper_init
  refine ⟨fd, okS F sc_Keeper_init (fun x => [MP.v (.ref x.2.1), MP.d K (.str x.1.nm), MP.d K x.1.wv, MP.d K x.1.rv]) (fun x F vs hl hp => ?_) (fun cdv A outer s H E hr => ⟨_, (pss_cons (ps_if (pt_not (pt_val (LK.pe_fn (ok_is_word T) (hr.mono (by decide)) pass0 (pa_cons (pv 1) pa_nil)))) (pss_one ps_never) pss_nil)
    (pss_cons (ps_if (pt_not (pt_val (LK.pe_fn (ok_are_wants T) (hr.mono (by decide)) pass0 (pa_cons (pv 2) pa_nil)))) (pss_one ps_never) pss_nil)
    (pss_cons (ps_if (PW.pt (pw_or (pt_not (pt_val (LK.pe_fn (ok_is_list T) (hr.mono (by decide)) pass0 (pa_cons (pv 3) pa_nil)))) (pw_or1 (pt_cmpR op_gt (pe_callB (kk_len (K := K) rfl) (by rfl) T.f_len boot_len (pa_cons (pv 3) pa_nil)) T.e_MOST_RULES (nomark _))))) (pss_one ps_never) pss_nil)
    (pss_cons (ps_for PassesOwn.never rfl (kk_pi_enum (K := K) rfl (by rfl) T.f_enumerate (pa_cons (pv 3) pa_nil)) (kk_tup (K := K) (n := 2) rfl rfl (pgs_cons (pg_name (i := 4) sc_Keeper_init.nd rfl (.inl rfl)) (pgs_cons (pg_name (i := 5) sc_Keeper_init.nd rfl (.inl rfl)) pgs_nil))) (pss_one (ps_if (pt_not (pt_val (LK.pe_fn (ok_is_rule T) (hr.mono (by decide)) pass0 (pa_cons (pv 5) pa_nil)))) (pss_one ps_never) pss_nil)))
    (pss_cons (ps_fld (pv 0) (pv 1) rfl)
    (pss_cons (ps_fld (pv 0) (pe_callTy (kk_tupOf (K := K) rfl) (by rfl) T.f_tuple boot_tuple (pa_cons (pe_callB (kk_sorted (K := K) rfl) (by rfl) T.f_sorted boot_sorted (pa_cons (pv 2) pa_nil)) pa_nil)) rfl)
    (pss_one (ps_fld (pv 0) (pe_callTy (kk_tupOf (K := K) rfl) (by rfl) T.f_tuple boot_tuple (pa_cons (pe_lc (own := [("sight", 6), ("deed", 7), ("checks", 8)]) rfl sc_Keeper_init.nd (kk_pi_seq (K := K) rfl (pv 3)) (blkOk_by (N := ["self", "name", "wants", "rules", "at", "rule", "sight", "deed", "checks"]) (sc := defScope st_Keeper_init) (by decide +kernel)) (fun _ _ _ _ _ => (kk_tup (K := K) (n := 3) rfl rfl (pgs_cons (pg_name (i := 6) sc_Keeper_init.nd rfl (.inl rfl)) (pgs_cons (pg_name (i := 7) sc_Keeper_init.nd rfl (.inl rfl)) (pgs_cons (pg_name (i := 8) sc_Keeper_init.nd rfl (.inl rfl)) pgs_nil))))) (fun _ _ _ _ _ => pts_nil) (fun _ _ _ _ _ => (pe_tup (pa_cons (pe_callTy (kk_tupOf (K := K) rfl) (by rfl) T.f_tuple boot_tuple (pa_cons (pe_callB (kk_sorted (K := K) rfl) (by rfl) T.f_sorted boot_sorted (pa_cons (pv 6) pa_nil)) pa_nil)) (pa_cons (pv 7) (pa_cons (pe_callTy (kk_tupOf (K := K) rfl) (by rfl) T.f_tuple boot_tuple (pa_cons (pe_callB (kk_sorted (K := K) rfl) (by rfl) T.f_sorted boot_sorted (pa_cons (pv 8) pa_nil)) pa_nil)) pa_nil)))))) pa_nil)) rfl)))))))), ?_⟩), F.bindsN fun _ _ _ _ _ _ us hl => match us, hl with | [_, _, _, _], _ => rfl⟩
  · obtain ⟨args, rfl, _, hd⟩ := hp
    exact slok_mv (.cons rfl (Mv.data hd))
  rintro ⟨⟨nm, wv, ws, rv, rs⟩, a, dx⟩
  refine St.get (P := Ki.ok ⟨nm, wv, ws, rv, rs⟩) (fun hx => ?_) fun F H ⟨_, vs, args, _, hp, _⟩ => hp
  obtain ⟨h1, h2, h3, h4, h5, h6⟩ := hx
  have h1 : wordS nm = true := h1
  have h2 : itemsD wv = some (ws.map PyData.str) := h2
  have h3 : wantsS ws := h3
  have h4 : itemsD rv = some rs := h4
  have h5 : ∀ r ∈ rs, ruleD r := h5
  have h6 : rs.length ≤ 8 := h6
  refine St.pre (J := InsAt (He.ga K "Keeper") a dx []) ?_ fun F H j => j.1
  have hlist : listD rv = true := by cases rv <;> first | rfl | cases h4
  refine q_ifret (b := false) ((b_not (b_tb (e_call (d := .bool true) (a_cons (e_dv (d := .str nm)) a_nil) ⟨.str nm, rfl, fun y e => by cases e; exact word_len h1, congrArg PyData.bool h1.symm⟩))).is rfl) cl_ins (fun z => by cases z) (fun _ => ?_)
  refine q_ifret (b := false) ((b_not (b_tb (e_call (d := .bool true) (a_cons (e_dv (d := wv)) a_nil) ⟨wv, ws, rfl, h2, h3, rfl⟩))).is rfl) cl_ins (fun z => by cases z) (fun _ => ?_)
  refine q_ifret (b := false) ((b_or (a := false) (b := false) ((b_not (b_tb (e_call (d := .bool (listD rv)) (a_cons (e_dv (d := rv)) a_nil) ⟨rv, rfl, rfl⟩))).is (by rw [hlist]; rfl)) (fun _ => b_test ((e_B0 (e_lenA (e_dv (d := rv)) h4) e_int).is (congrArg PyData.bool (decide_eq_false (by omega)))))).is rfl) cl_ins (fun z => by cases z) (fun _ => ?_)
  refine q_for (ns := [4, 5]) (up := upAR 4 5 K) (ρL := [some (MP.v (.ref a)), some (MP.d K (.str nm)), some (MP.d K wv), some (MP.d K rv), none, none, none, none, none]) (src_enumA (a_cons (e_dv (d := rv)) a_nil) h4) cl_ins (fun d hd => ?_) (fun _ => InsAt (He.ga K "Keeper") a dx []) (WeakL.refl _) (fun _ _ j => j) (fun _ => cl_ins) (fun i d hd => ?_) ?_
  · obtain ⟨i, r, hr', hi, rfl⟩ := enumD_mem hd
    exact gt_tup (gs_cons gt_name (gs_cons gt_name gs_nil))
  · obtain ⟨i, r, hr', hi, rfl⟩ := enumD_mem (List.mem_of_getElem? hd)
    exact s_ifret (b := false) ((b_not (b_tb (e_call (d := .bool true) (a_cons (e_dv (d := r)) a_nil) ⟨r, rfl, h5 r hr', rfl⟩))).is rfl) cl_ins (fun z => by cases z) (fun _ F H j => ⟨(by repeat (first | exact WeakL.nil | refine WeakL.same ?_ | refine WeakL.drop ?_)), j⟩)
  refine q_fld (m := MP.d K (.str nm)) (f := "own_name") rfl (e_dv (d := .str nm)) T.cls_Keeper T.no_Keeper_own_name rfl ?_
  refine q_fldX (m := fun ys : List Str => MP.d K (.tuple (ys.map PyData.str))) (P := fun ys => ys.Perm ws) (f := "own_wants") rfl (e_tupSort (e_dv (d := wv)) h2 (by have := h3.2.2; omega)) T.cls_Keeper T.no_Keeper_own_wants rfl fun ys py => ?_
  refine s_fldX (m := fun es : List PyData => MP.d K (.tuple es)) (P := fun es => es.length = rs.length ∧ ∀ e ∈ es, ruleD e) (f := "own_rules") rfl (e_tupOfX (e_lcX (ns := [6, 7, 8]) (up := up3 6 7 8 K) ruleD (src_seq (e_dv (d := rv)) h4) (fun d hd => ?_) (fun _ h => h) (sz_lt (by omega)) (fun d hd => ?_))) T.cls_Keeper T.no_Keeper_own_rules rfl fun es pe F H j => ?_
  · obtain ⟨ss, cs, dd, rfl, _⟩ := h5 d hd
    exact gt_tup (gs_cons gt_name (gs_cons gt_name (gs_cons gt_name gs_nil)))
  · have hrd := h5 d hd
    obtain ⟨ss, cs, dd, rfl, ⟨_, _, hs3⟩, _, _, _, hc3⟩ := id hrd
    refine (e_tupP (ap_cons (e_tupSort (e_dv (d := .tuple (ss.map PyData.str)) (by simp [LK.wipeR, LK.st0, LK.up3, LK.upAR])) rfl (by omega)) (ap_consD (e_dv (d := dd) (by simp [LK.wipeR, LK.st0, LK.up3, LK.upAR])) (ap_cons (e_tupSort (e_dv (d := .tuple (cs.map PyData.str)) (by simp [LK.wipeR, LK.st0, LK.up3, LK.upAR])) rfl (by omega)) ap_nil))) ?_).imp fun F v => ?_
    · rintro ds ⟨y, r, _, ⟨r2, ⟨y3, r3, _, rfl, rfl⟩, rfl⟩, rfl⟩
      show 3 ≤ sizeLine
      decide
    · rintro ⟨ds, ⟨y, r, py, ⟨r2, ⟨y3, r3, py3, rfl, rfl⟩, rfl⟩, rfl⟩, dv⟩
      exact ⟨_, rule_perm hrd py py3, dv⟩
  · exact ⟨rfl, ⟨nm, ys, es⟩, ⟨rfl, ⟨h1, wants_perm h3 py, pe.2, by show es.length ≤ 8; rw [pe.1]; exact h6⟩, pe.1⟩, j⟩
theorem ok_Keeper_name (T : Tx w h K mg) : MOk P w K mg base CX0 1 (getterOf K "Keeper" "name") ["self"] (getSp (He.ga K "Keeper") "own_name") := by
  obtain ⟨fd, F⟩ := T.d_Keeper_name
  obtain ⟨oc, od, dV, kV, doc, pm, an, cdv, ct, osl, rfl, lk, hcd, _, _⟩ := id F.ex
  exact ⟨_, fn_getter lk hcd sc_Keeper_name rfl rfl T.cls_Keeper T.no_Keeper_own_name, F.bindsN fun _ _ _ _ _ _ us hl => match us, hl with | [_], _ => rfl⟩
theorem ok_Keeper_wants (T : Tx w h K mg) : MOk P w K mg base CX0 1 (getterOf K "Keeper" "wants") ["self"] (getSp (He.ga K "Keeper") "own_wants") := by
  obtain ⟨fd, F⟩ := T.d_Keeper_wants
  obtain ⟨oc, od, dV, kV, doc, pm, an, cdv, ct, osl, rfl, lk, hcd, _, _⟩ := id F.ex
  exact ⟨_, fn_getter lk hcd sc_Keeper_wants rfl rfl T.cls_Keeper T.no_Keeper_own_wants, F.bindsN fun _ _ _ _ _ _ us hl => match us, hl with | [_], _ => rfl⟩
theorem ok_Keeper_rules (T : Tx w h K mg) : MOk P w K mg base CX0 1 (getterOf K "Keeper" "rules") ["self"] (getSp (He.ga K "Keeper") "own_rules") := by
  obtain ⟨fd, F⟩ := T.d_Keeper_rules
  obtain ⟨oc, od, dV, kV, doc, pm, an, cdv, ct, osl, rfl, lk, hcd, _, _⟩ := id F.ex
  exact ⟨_, fn_getter lk hcd sc_Keeper_rules rfl rfl T.cls_Keeper T.no_Keeper_own_rules, F.bindsN fun _ _ _ _ _ _ us hl => match us, hl with | [_], _ => rfl⟩
theorem ok_Keeper_len (T : Tx w h K mg) : MOk P w K mg base CX0 1 (He.ma K (He.ga K "Keeper") "__len__") ["self"] (spR (α := Kd) 1 (fun y F vs => ∃ v, vs = [v] ∧ (y.mp K).R F v) (fun y _ v => v = .int (y.rs.length : Nat))) := by
  obtain ⟨fd, F⟩ := T.d_Keeper_len
  refine ⟨fd, okR F sc_Keeper_len (fun y => [y.mp K]) (fun x F vs hl ⟨v, e, r⟩ => by subst e; exact slok_mv (.cons r .nil)) (fun cdv A outer s H E hr => ⟨_, (pss_one (ps_ret (pe_callB (kk_len (K := K) rfl) (by rfl) T.f_len boot_len (pa_cons (kk_fld (K := K) rfl (pv 0)) pa_nil)))), ?_⟩), F.bindsN fun _ _ _ _ _ _ us hl => match us, hl with | [_], _ => rfl⟩
  rintro ⟨nm, ws, rs⟩
  refine St.pre (J := JT) ?_ fun _ _ _ => trivial
  exact s_ret (e_lenA (d := .tuple rs) (e_fld (m := MP.d K (.tuple rs)) (ms := Kd.ms K ⟨nm, ws, rs⟩) (e_var (m := Kd.mp K ⟨nm, ws, rs⟩) rfl) T.cls_Keeper T.no_Keeper_own_rules rfl) rfl) cl_T fun v F H _ r => by cases r; rfl
/-- None, or the index of a rule -/
def atD (n : Nat) (d : PyData) : Prop := d = .none ∨ ∃ i : Nat, i < n ∧ d = .int (i : Nat)
theorem ok_Keeper_decided (T : Tx w h K mg) : MOk P w K mg base CX0 3 (He.ma K (He.ga K "Keeper") "decided") ["self", "view"] (spR (α := Kd × PyData) 2 (fun y F vs => y.1.ok ∧ viewD y.2 ∧ ∃ v u, vs = [v, u] ∧ (y.1.mp K).R F v ∧ Dat K F y.2 u) (fun y F v => ∃ d, atD y.1.rs.length d ∧ Dat K F d v)) := by
  obtain ⟨fd, F⟩ := T.d_Keeper_decided
  refine ⟨fd, okR F sc_Keeper_decided (fun y => [y.1.mp K, MP.d K y.2]) (fun x F vs hl ⟨_, _, v, u, e, r, r2⟩ => by subst e; exact slok_mv (.cons r (.cons r2 .nil))) (fun cdv A outer s H E hr => ⟨_, (pss_cons (ps_set (i := 2) sc_Keeper_decided.nd rfl (.inr rfl) (LK.pe_fn (ok_held_for T) (hr.mono (by decide)) pass0 (pa_cons (pv 1) (pa_cons (kk_fld (K := K) rfl (pv 0)) pa_nil))))
    (pss_cons (ps_for PassesOwn.never rfl (kk_pi_enum (K := K) rfl (by rfl) T.f_enumerate (pa_cons (kk_fld (K := K) rfl (pv 0)) pa_nil)) (kk_tup (K := K) (n := 2) rfl rfl (pgs_cons (pg_name (i := 3) sc_Keeper_decided.nd rfl (.inl rfl)) (pgs_cons (pg_name (i := 4) sc_Keeper_decided.nd rfl (.inl rfl)) pgs_nil))) (pss_one (ps_if (pt_val (pe_callB (kk_all (K := K) rfl rfl) (by rfl) T.f_all boot_all (pa_cons (pe_lc (own := [("condition", 5)]) rfl sc_Keeper_decided.nd (kk_pi_tup (K := K) rfl (pe_ix (kk_ixT (K := K) rfl) (pv 4) pe_int (fun _ _ => rfl))) (blkOk_by (N := ["self", "view", "known", "at", "rule", "condition"]) (sc := defScope st_Keeper_decided) (by decide +kernel)) (fun _ _ _ _ _ => (pg_name (i := 5) sc_Keeper_decided.nd rfl (.inl rfl))) (fun _ _ _ _ _ => pts_nil) (fun _ _ _ _ _ => (pe_cmpR (kk_in_seq (K := K) rfl) (pv 5) (pv 2) rfl))) pa_nil))) (pss_one (ps_ret (pv 3))) pss_nil)))
    (pss_one (ps_ret pe_non)))), ?_⟩), F.bindsN fun _ _ _ _ _ _ us hl => match us, hl with | [_, _], _ => rfl⟩
  rintro ⟨⟨nm, ws, rs⟩, vw⟩
  refine St.get (P := Kd.ok ⟨nm, ws, rs⟩ ∧ viewD vw) (fun hx => ?_) fun F H ⟨vs, hp⟩ => ⟨hp.1, hp.2.1⟩
  obtain ⟨⟨h1, h2, h3, h4⟩, h5⟩ := hx
  have h3 : ∀ r ∈ rs, ruleD r := h3
  have h4 : rs.length ≤ 8 := h4
  refine St.pre (J := JT) ?_ fun _ _ _ => trivial
  refine q_asgX (P := fun xs : List Str => xs.length ≤ 7) (m := fun xs => MP.d K (.list (xs.map PyData.str))) (e_callR (vw, ws) (fun F H σ s sl Q q => a_cons (e_dv (d := vw)) (a_cons (d := .tuple (ws.map PyData.str)) (e_fld (m := MP.d K (.tuple (ws.map PyData.str))) (ms := Kd.ms K ⟨nm, ws, rs⟩) (e_var (m := Kd.mp K ⟨nm, ws, rs⟩) rfl) T.cls_Keeper T.no_Keeper_own_wants rfl) a_nil) F H σ s sl Q fun vs F2 H2 l r => q vs F2 H2 l ⟨by rw [← r.length]; rfl, h5, r⟩)) cl_T fun xs hxs => ?_
  refine q_for (ns := [3, 4]) (up := upAR 3 4 K) (ρL := [some (Kd.mp K ⟨nm, ws, rs⟩), some (MP.d K vw), some (MP.d K (.list (xs.map PyData.str))), none, none, none]) (src_enumA (d := .tuple rs) (a_cons (e_fld (m := MP.d K (.tuple rs)) (ms := Kd.ms K ⟨nm, ws, rs⟩) (e_var (m := Kd.mp K ⟨nm, ws, rs⟩) rfl) T.cls_Keeper T.no_Keeper_own_rules rfl) a_nil) rfl) cl_T (fun d hd => ?_) (fun _ => JT) (WeakL.refl _) (fun _ _ j => j) (fun _ => cl_T) (fun i d hd => ?_) (s_ret e_non cl_T fun v F H _ r => ⟨_, .inl rfl, r⟩)
  · obtain ⟨i, r, hr', hi, rfl⟩ := enumD_mem hd
    exact gt_tup (gs_cons gt_name (gs_cons gt_name gs_nil))
  · obtain ⟨i, r, hr', hi, rfl⟩ := enumD_mem (List.mem_of_getElem? hd)
    obtain ⟨ss, cs, dd, rfl, ⟨_, _, hs3⟩, _⟩ := h3 r hr'
    refine s_ifret (b_tb (e_all (bs := ss.map fun x => decide (x ∈ xs)) ((e_lcm (ns := [5]) (up := fun d ρ => ρ.set 5 (some (MP.d K d))) (fun d => .bool (inD d (xs.map PyData.str))) (src_tup (e_ixT (d := .tuple (ss.map PyData.str)) (e_dv (d := .tuple [.tuple (ss.map PyData.str), dd, .tuple (cs.map PyData.str)])) e_int rfl)) (fun d => gt_name) (fun _ h => h) (by rw [List.length_map]; exact sz_lt (by omega)) (fun d hd => ?_)).is (by rw [List.map_map, List.map_map]; exact congrArg PyData.list (List.map_congr_left fun x _ => congrArg PyData.bool inD_str))))) cl_T (fun _ => s_ret (e_dv (d := .int ((0 + i : Nat) : Int))) cl_T fun v F H _ r => ⟨_, .inr ⟨i, hi, rfl⟩, by rw [Nat.zero_add] at r; exact r⟩) (fun _ F H j => ⟨(by repeat (first | exact WeakL.nil | refine WeakL.same ?_ | refine WeakL.drop ?_)), j⟩)
    obtain ⟨x, hx, rfl⟩ := List.mem_map.mp hd
    exact (e_in (neg := false) (e_dv (d := .str x)) (e_dv (d := .list (xs.map PyData.str))) rfl (LK.flat_strs xs))
end
end K47

set_option Elab.async false
set_option linter.all false
set_option maxRecDepth 100000
set_option maxHeartbeats 4000000
/-! PD47e: need_words and the functions that call it. -/
namespace LK
open PySem PySem.Spec PyProof.Rows L2
/-- what need_words raises at an item -/
def firstBad : List Str → List PyData → Option PyData
  | _, [] => none
  | seen, d :: ds => match d with
    | .str x => if wordS x = true ∧ ¬ x ∈ seen then firstBad (seen ++ [x]) ds else some d
    | _ => some d
def dueW (v : PyData) : Option PyData := match itemsD v with
  | none => some .none
  | some ds => if 1 ≤ ds.length ∧ ds.length ≤ 3 then firstBad [] ds else some .none
/-- its texts are short -/
def okW (v : PyData) : Prop := ∀ ds, itemsD v = some ds → ∀ x, PyData.str x ∈ ds → x.length ≤ sizeLine
theorem fb_word {seen : List Str} {x : Str} {ds : List PyData} (h : wordS x = true) (n : ¬ x ∈ seen) : firstBad seen (.str x :: ds) = firstBad (seen ++ [x]) ds := if_pos ⟨h, n⟩
theorem fb_in {seen : List Str} {x : Str} {ds : List PyData} (n : x ∈ seen) : firstBad seen (.str x :: ds) = some (.str x) := if_neg (fun z => z.2 n)
theorem fb_no {seen : List Str} {d : PyData} {ds : List PyData} (h : wordD d = false) : firstBad seen (d :: ds) = some d := by
  cases d with
  | str x => exact if_neg (fun z => by rw [show wordD (.str x) = wordS x from rfl, z.1] at h; cases h)
  | _ => rfl
theorem word_str {d : PyData} (h : wordD d = true) : ∃ x, d = .str x ∧ wordS x = true := by
  cases d with
  | str x => exact ⟨x, rfl, h⟩
  | _ => cases h
theorem fb_none : ∀ {ds : List PyData} {seen : List Str}, firstBad seen ds = none → ∃ xs : List Str, ds = xs.map PyData.str ∧ (∀ x ∈ xs, wordS x = true) ∧ xs.Nodup ∧ ∀ x ∈ xs, ¬ x ∈ seen
  | [], _, _ => ⟨[], rfl, by simp, .nil, by simp⟩
  | d :: ds, seen, h => by
    cases hw : wordD d with
    | false => rw [fb_no hw] at h; cases h
    | true =>
      obtain ⟨x, rfl, hx⟩ := word_str hw
      by_cases n : x ∈ seen
      · rw [fb_in n] at h; cases h
      · rw [fb_word hx n] at h
        obtain ⟨xs, rfl, h1, h2, h3⟩ := fb_none h
        refine ⟨x :: xs, rfl, fun y hy => ?_, List.nodup_cons.mpr ⟨fun z => h3 x z (by simp), h2⟩, fun y hy => ?_⟩
        · rcases List.mem_cons.mp hy with rfl | hy
          · exact hx
          · exact h1 y hy
        · rcases List.mem_cons.mp hy with rfl | hy
          · exact n
          · exact fun z => h3 y hy (List.mem_append_left _ z)
theorem due_none {v : PyData} (h : dueW v = none) : ∃ xs : List Str, itemsD v = some (xs.map PyData.str) ∧ wantsS xs := by
  unfold dueW at h
  split at h
  · cases h
  · rename_i ds e
    split at h
    · rename_i hl
      obtain ⟨xs, rfl, h1, h2, _⟩ := fb_none h
      rw [List.length_map] at hl
      exact ⟨xs, e, h2, h1, hl.2⟩
    · cases h
theorem due_not {v : PyData} (h : itemsD v = none) : dueW v = some .none := by unfold dueW; rw [h]
theorem due_len {v : PyData} {ds : List PyData} (h : itemsD v = some ds) (n : ¬ (1 ≤ ds.length ∧ ds.length ≤ 3)) : dueW v = some .none := by unfold dueW; rw [h]; exact if_neg n
theorem due_go {v : PyData} {ds : List PyData} (h : itemsD v = some ds) (n : 1 ≤ ds.length ∧ ds.length ≤ 3) : dueW v = firstBad [] ds := by unfold dueW; rw [h]; exact if_pos n
theorem items_list {v : PyData} {ds : List PyData} (h : itemsD v = some ds) : listD v = true := by cases v <;> first | rfl | cases h
theorem items_not {v : PyData} (h : itemsD v = none) : listD v = false := by cases v <;> first | rfl | cases h
def noneD : PyData → Bool
  | .none => true
  | _ => false
theorem e_isNd {K : PySem.W.Frag} {ρ : Ro} {ta : TE} {d : PyData} (ha : Ev K ta ρ d) : Ev K (tOp (fun x y H Q => y = .non ∧ Q (.bl (decide (x = .non))) H) ta (tC .non)) ρ (.bool (noneD d)) := (e_isN ha).imp fun F v ⟨u, hu, e⟩ => by
  subst e
  have q : decide (u = V.non) = noneD d := by cases hu <;> simp [noneD]
  rw [q]
  exact .bl _
/-- words given to views_of -/
def fewS (ys : List Str) : Prop := ys.length ≤ 3 ∧ ∀ y ∈ ys, PyData.strOk y = true
abbrev spAV (K : PySem.W.Frag) : Sp := spX K (He.ga K "BadWord") "thing" (α := PyData) 1 (fun v F vs => okW v ∧ DatA K F [v] vs) dueW (fun _ F v => ∃ ys : List Str, fewS ys ∧ Dat K F (.list (viewsD ys)) v)
theorem av_src {K : PySem.W.Frag} {ρ : Ro} {E : XK} {i : Nat} {v : PyData} (hi : ρ[i]? = some (some (MP.d K v))) (hd : dueW v = none) (hw : okW v) : SrcX K (iList K (tCall (spAV K) [] E (tCons (tVar i) tNil))) ρ fewS viewsD :=
  srcX_list (e_callX v hd fun F H σ s sl Q q => a_cons (e_dv (d := v) hi) a_nil F H σ s sl Q fun vs F2 H2 l r => q vs F2 H2 l ⟨by rw [← r.length]; rfl, hw, r⟩)
theorem av_z {K : PySem.W.Frag} {ρ : Ro} {E : XK} {i : Nat} {v t : PyData} {F0 H0 : Hp} (hi : ρ[i]? = some (some (MP.d K v))) (hd : dueW v = some t) (hw : okW v) (hE : EX K (He.ga K "BadWord") "thing" F0 H0 t E) : EvZ (JX F0 H0) (tCall (spAV K) [] E (tCons (tVar i) tNil)) ρ :=
  z_callX v hd hE fun F H σ s sl Q q => a_cons (e_dv (d := v) hi) a_nil F H σ s sl Q fun vs F2 H2 l r => q vs F2 H2 l ⟨by rw [← r.length]; rfl, hw, r⟩

/-- flat in the sense of == -/
def chD (d : PyData) : Prop := d.hasDict = false ∧ SeqAt.shaped d = true
theorem few_of {xs ys : List Str} (h : wantsS xs) (p : ys.Perm xs) : fewS ys := ⟨by rw [p.length_eq]; exact h.2.2, fun y hy => word_ok (h.2.1 y (p.mem_iff.mp hy))⟩
theorem lay_strs : ∀ {xs : List Str}, (∀ x ∈ xs, PyData.strOk x = true) → PyData.canLayAll0 (xs.map PyData.str) = true
  | [], _ => by simp [PyData.canLayAll0]
  | x :: xs, h => by
    have h1 := h x (by simp)
    have h2 := lay_strs fun y hy => h y (List.mem_cons_of_mem x hy)
    simp [PyData.canLayAll0, PyData.canLay0, h1, h2]
theorem dep_strs : ∀ xs : List Str, PyData.depthAll (xs.map PyData.str) ≤ 1
  | [] => by simp [PyData.depthAll]
  | x :: xs => by
    have h2 := dep_strs xs
    simp [PyData.depthAll, PyData.depth]
    exact h2
theorem nod_strs : ∀ xs : List Str, PyData.hasDictAll (xs.map PyData.str) = false
  | [] => by simp [PyData.hasDictAll]
  | x :: xs => by simp [PyData.hasDictAll, PyData.hasDict, nod_strs xs]
theorem ch_rule {dd : PyData} {cs : List Str} (hd : K47.deedD dd) (hc : ∀ x ∈ cs, x ∈ partsS) : chD (.tuple [dd, .tuple (cs.map PyData.str)]) := by
  have parts_ok : ∀ x ∈ partsS, PyData.strOk x = true := by decide +kernel
  have plain_ok : ∀ x ∈ plainS, PyData.strOk x = true := by decide +kernel
  have turn_ok : PyData.strOk "turn" = true := by decide +kernel
  have h1 := lay_strs fun x hx => parts_ok x (hc x hx)
  have h2 := dep_strs cs
  have h3 := nod_strs cs
  rcases hd with ⟨x, hx, rfl⟩ | ⟨x, hx, rfl⟩
  · have h4 := word_ok hx
    refine ⟨by simp [PyData.hasDict, PyData.hasDictAll, h3], ?_⟩
    simp [SeqAt.shaped, PyData.canLay0, PyData.canLayAll0, PyData.depth, PyData.depthAll, h1, h4, turn_ok]
    omega
  · have h4 := plain_ok x hx
    refine ⟨by simp [PyData.hasDict, PyData.hasDictAll, h3], ?_⟩
    simp [SeqAt.shaped, PyData.canLay0, PyData.canLayAll0, PyData.depth, PyData.depthAll, h1, h4]
    omega
end LK
namespace K47
open PySem PySem.Spec PyProof.Rows L2 LK
section
variable {P : Program} {w : World} {h : Heap} {K : PySem.W.Frag} {mg : Str → Option Value} {base : Heap}
theorem ok_BadWord_init (T : Tx w h K mg) : ∃ fd, FnOk P w K mg base CX0 1 (He.ma K (He.ga K "BadWord") "__init__") fd ["self", "thing"] (spIni (He.ga K "BadWord") "thing") ∧ Binds K fd ["self", "thing"] [] := by
  obtain ⟨fd, F⟩ := T.d_BadWord_init
  refine ⟨fd, F.ok sc_BadWord_init (fun vs H Q E h => by obtain ⟨a, v, rfl, _⟩ := h; rfl) (fun cdv A outer s H vs Q E hr h => ⟨_, PSs.nox (pss_cons (ps_expr (pe_kinit T.kinit rfl T.g_KeeperError (pa_cons (pv 0) (pa_cons pe_str pa_nil))))
    (pss_one (ps_ost (pv 0) (pv 1)))), rd_ini T.err h⟩), F.bindsN fun _ _ _ _ _ _ us hl => match us, hl with | [_, _], _ => rfl⟩
theorem ok_need_words (T : Tx w h K mg) : FOk P w K mg base (L2.CX P w) 3 "need_words" ["words"] (spX K (He.ga K "BadWord") "thing" (α := PyData) 1 (fun v F vs => okW v ∧ DatA K F [v] vs) dueW (fun _ _ _ => True)) := by
  obtain ⟨fd, F⟩ := T.d_need_words
  obtain ⟨fd2, F2, b2⟩ := ok_BadWord_init (P := P) (base := base) T
  refine ⟨T.g_need_words, F.kp, fd, okX F sc_need_words (fun v => [MP.d K v]) (fun v F vs hl hp => slok_data hp.2) (fun cdv A outer s H E hr => ⟨_, (pss_cons (ps_if (PW.pt (pw_or (pt_not (pt_val (LK.pe_fn (ok_is_list T) (hr.mono (by decide)) pass0 (pa_cons (pv 0) pa_nil)))) (pw_or1 (pt_not (pt_chain op_le op_le pe_int (pe_callB (kk_len (K := K) rfl) (by rfl) T.f_len boot_len (pa_cons (pv 0) pa_nil)) T.e_MOST_WORDS))))) (pss_one (ps_raiseC T.err F2 b2 (hr.mono (by decide)) rfl (takes_of rfl rfl rfl rfl) rfl T.g_BadWord pe_non)) pss_nil)
    (pss_one (ps_for (passes_of rfl) rfl (kk_pi_enum (K := K) rfl (by rfl) T.f_enumerate (pa_cons (pv 0) pa_nil)) (kk_tup (K := K) (n := 2) rfl rfl (pgs_cons (pg_name (i := 1) sc_need_words.nd rfl (.inl rfl)) (pgs_cons (pg_name (i := 2) sc_need_words.nd rfl (.inl rfl)) pgs_nil))) (pss_one (ps_if (PW.pt (pw_or (pt_not (pt_val (LK.pe_fn (ok_is_word T) (hr.mono (by decide)) pass0 (pa_cons (pv 2) pa_nil)))) (pw_or1 (pt_cmpR (kk_in_seq (K := K) rfl) (pv 2) (pe_slice (kk_slE (K := K) rfl) (pv 0) po_none (po_some (pv 1))) rfl)))) (pss_one (ps_raiseC T.err F2 b2 (hr.mono (by decide)) rfl (takes_of rfl rfl rfl rfl) rfl T.g_BadWord (pv 2))) pss_nil))))), ?_⟩), F.bindsN fun _ _ _ _ _ _ us hl => match us, hl with | [_], _ => rfl⟩
  rintro v F0 hE ⟨_, hw, _⟩
  have call : Ev K (tCall (spD K 1 fun ds d => ∃ v, ds = [v] ∧ d = .bool (listD v)) [] E (tCons (tVar 0) tNil)) (st0 nm_need_words [MP.d K v]) (.bool (listD v)) := e_call (a_cons (e_dv (d := v)) a_nil) ⟨v, rfl, rfl⟩
  cases hi : itemsD v with
  | none => exact q_ifret (b := true) ((b_or (a := true) (b := true) ((b_not (b_tb (e_call (d := .bool (listD v)) (a_cons (e_dv (d := v)) a_nil) ⟨v, rfl, rfl⟩))).is (by rw [items_not hi]; rfl)) (fun z => by cases z)).is rfl) cl_X (fun _ => z_raise e_non (hE _ (due_not hi))) (fun z => by cases z)
  | some ds =>
    by_cases hl : 1 ≤ ds.length ∧ ds.length ≤ 3
    · refine q_ifret (b := false) ((b_or (a := false) (b := false) ((b_not (b_tb (e_call (d := .bool (listD v)) (a_cons (e_dv (d := v)) a_nil) ⟨v, rfl, rfl⟩))).is (by rw [items_list hi]; rfl)) (fun _ => (b_not (b_test (e_chain e_int (e_lenA (e_dv (d := v)) hi) e_int))).is ?_)).is rfl) cl_X (fun z => by cases z) (fun _ => ?_)
      · rw [decide_eq_true (by omega : (1 : Int) ≤ ds.length), decide_eq_true (by omega : (ds.length : Int) ≤ 3)]; rfl
      have hg := due_go hi hl
      refine s_forL (ns := [1, 2]) (up := upAR 1 2 K) (ρL := [some (MP.d K v), none, none]) (src_enumA (a_cons (e_dv (d := v)) a_nil) hi) cl_X (fun d hd => ?_) (fun i F H' => JX F0 H F H' ∧ ∃ xs : List Str, ds.take i = xs.map PyData.str ∧ firstBad xs (ds.drop i) = firstBad [] ds) (WeakL.refl _) (fun F H' j => ⟨j, [], by simp, by simp⟩) (fun i F H' F2 H2 l j => ⟨cl_X F H' F2 H2 l j.1, j.2⟩) (fun i d hd => ?_) (fun F H' j => ?_)
      · obtain ⟨i, r, hr', hi', rfl⟩ := enumD_mem hd
        exact gt_tup (gs_cons gt_name (gs_cons gt_name gs_nil))
      · obtain ⟨e, he, rfl⟩ := enumD_get hd
        have hil := (List.getElem?_eq_some_iff.mp he).1
        have hdrop : ds.drop i = e :: ds.drop (i + 1) := by
          obtain ⟨h1, h2⟩ := List.getElem?_eq_some_iff.mp he
          rw [← h2]
          exact List.drop_eq_getElem_cons h1
        refine St.get (P := ∃ xs : List Str, ds.take i = xs.map PyData.str ∧ firstBad xs (ds.drop i) = firstBad [] ds) (fun ⟨xs, hx1, hx2⟩ => ?_) fun F H' j => j.2
        rw [hdrop] at hx2
        refine St.pre (J := JX F0 H) ?_ fun F H' j => j.1
        have hsz : ∀ x, e = .str x → x.length ≤ sizeLine := fun x ex => hw ds hi x (by rw [← ex]; exact List.mem_of_getElem? he)
        have htk : ds.take (i + 1) = ds.take i ++ [e] := by rw [List.take_succ, he]; rfl
        cases hwd : wordD e with
        | false =>
          refine s_ifret (b := true) ((b_or (a := true) (b := true) ((b_not (b_tb (e_call (d := .bool (wordD e)) (a_cons (e_dv (d := e)) a_nil) ⟨e, rfl, hsz, rfl⟩))).is (by rw [hwd]; rfl)) (fun z => by cases z)).is rfl) cl_X (fun _ => z_raise (e_dv (d := e)) (hE _ ?_)) (fun z => by cases z)
          rw [hg, ← hx2, fb_no hwd]
        | true =>
          obtain ⟨x, rfl, hxw⟩ := word_str hwd
          refine s_ifret (b := decide (x ∈ xs)) ((b_or (a := false) (b := decide (x ∈ xs)) ((b_not (b_tb (e_call (d := .bool (wordD (.str x))) (a_cons (e_dv (d := .str x)) a_nil) ⟨.str x, rfl, hsz, rfl⟩))).is (by rw [hwd]; rfl)) (fun _ => b_test (e_inE (neg := false) (xs := xs) (e_dv (d := .str x)) ((e_slE (e_dv (d := v)) hi p_none (p_some (e_dv (d := .int ((0 + i : Nat) : Int))))).imp fun F u ⟨e', h1, h2⟩ => ⟨e', by rw [h1, Nat.zero_add, cut_to', hx1], h2⟩)))).is (Bool.false_or _)) cl_X (fun hb => z_raise (e_dv (d := .str x)) (hE _ ?_)) (fun hb F H' j => ⟨(by repeat (first | exact WeakL.nil | refine WeakL.same ?_ | refine WeakL.drop ?_)), j, xs ++ [x], ?_, ?_⟩)
          · rw [hg, ← hx2, fb_in (of_decide_eq_true hb)]
          · rw [htk, hx1, List.map_append]; rfl
          · rw [← hx2, fb_word hxw (of_decide_eq_false hb)]
      · obtain ⟨xs, hx1, hx2⟩ := j.2
        rw [enumD_len, List.drop_of_length_le (Nat.le_refl _)] at hx2
        exact ⟨by rw [hg, ← hx2]; rfl, trivial⟩
    · refine q_ifret (b := true) ((b_or (a := false) (b := true) ((b_not (b_tb (e_call (d := .bool (listD v)) (a_cons (e_dv (d := v)) a_nil) ⟨v, rfl, rfl⟩))).is (by rw [items_list hi]; rfl)) (fun _ => (b_not (b_test (e_chain e_int (e_lenA (e_dv (d := v)) hi) e_int))).is ?_)).is rfl) cl_X (fun _ => z_raise e_non (hE _ (due_len hi hl))) (fun z => by cases z)
      by_cases h1 : 1 ≤ ds.length
      · rw [decide_eq_false (by omega : ¬ (ds.length : Int) ≤ 3), Bool.and_false]; rfl
      · rw [decide_eq_false (by omega : ¬ (1 : Int) ≤ ds.length)]; rfl
theorem ok_all_views (T : Tx w h K mg) : FOk P w K mg base (L2.CX P w) 4 "all_views" ["words"] (spAV K) := by
  obtain ⟨fd, F⟩ := T.d_all_views
  refine ⟨T.g_all_views, F.kp, fd, okX F sc_all_views (fun v => [MP.d K v]) (fun v F vs hl hp => slok_data hp.2) (fun cdv A outer s H E hr => ⟨_, (pss_cons (ps_expr (LK.pe_fn (ok_need_words T) (hr.mono (by decide)) (passes_call (takes_of rfl rfl rfl rfl) (fun _ _ _ _ h => h)) (pa_cons (pv 0) pa_nil)))
    (pss_one (ps_ret (LK.pe_fn (ok_views_of T) (hr.mono (by decide)) pass0 (pa_cons (pe_callB (kk_sorted (K := K) rfl) (by rfl) T.f_sorted boot_sorted (pa_cons (pv 0) pa_nil)) pa_nil))))), ?_⟩), F.bindsN fun _ _ _ _ _ _ us hl => match us, hl with | [_], _ => rfl⟩
  rintro v F0 hE ⟨_, hw, _⟩
  cases hd : dueW v with
  | some t => exact z_drop (z_callX v hd (hE t hd) (fun F H σ s sl Q q => a_cons (e_dv (d := v)) a_nil F H σ s sl Q fun vs F2 H2 l r => q vs F2 H2 l ⟨by rw [← r.length]; rfl, hw, r⟩))
  | none =>
    obtain ⟨xs, hx, hws⟩ := due_none hd
    refine q_drop (EvS.of (e_callX v hd (fun F H σ s sl Q q => a_cons (e_dv (d := v)) a_nil F H σ s sl Q fun vs F2 H2 l r => q vs F2 H2 l ⟨by rw [← r.length]; rfl, hw, r⟩)) cl_X) (fun _ F H' j => j.1) ?_
    refine s_ret (e_callE (Px := fun x : List PyData × PyData => ∃ ys : List Str, fewS ys ∧ x = ([.list (ys.map PyData.str)], .list (viewsD ys))) fun F H' σ s sl Q q => e_sortedA (e_dv (d := v)) hx (by have := hws.2.2; omega) F H' σ s sl _ fun u F2 H2 l ⟨ys, hp, _, r⟩ => q [u] F2 H2 l ⟨_, ⟨ys, few_of hws hp, rfl⟩, rfl, .cons r .nil, ys, rfl, (few_of hws hp).1, rfl⟩) cl_X fun u F H' j r => ?_
    obtain ⟨_, ⟨ys, hy, rfl⟩, r⟩ := r
    exact ⟨rfl, ys, hy, r⟩
/-- the words of a keeper's function: data, checked later -/
theorem ok_table_of (T : Tx w h K mg) : FOk P w K mg base (L2.CX P w) 5 "table_of" ["keeper", "words"] (spX K (He.ga K "BadWord") "thing" (α := Kd × PyData) 2 (fun y F vs => y.1.ok ∧ okW y.2 ∧ ∃ v u, vs = [v, u] ∧ (y.1.mp K).R F v ∧ Dat K F y.2 u) (fun y => dueW y.2) (fun _ _ _ => True)) := by
  obtain ⟨fd, F⟩ := T.d_table_of
  refine ⟨T.g_table_of, F.kp, fd, okX F sc_table_of (fun y => [y.1.mp K, MP.d K y.2]) (fun x F vs hl ⟨_, _, v, u, e, r, r2⟩ => by subst e; exact slok_mv (.cons r (.cons r2 .nil))) (fun cdv A outer s H E hr => ⟨_, (pss_one (ps_ret (pe_dcT (own := [("view", 2)]) (Nat.lt_of_le_of_lt (Nat.add_le_add_left (by decide : 8 ≤ 64) _) hr.units) rfl sc_table_of.nd (kk_pi_list (K := K) rfl (LK.pe_fn (ok_all_views T) (hr.mono (by decide)) (passes_call (takes_of rfl rfl rfl rfl) (fun _ _ _ _ h => h)) (pa_cons (pv 1) pa_nil))) (blkOk_by (N := ["keeper", "words", "view"]) (sc := defScope st_table_of) (by decide +kernel)) (fun _ _ _ _ _ => (pg_name (i := 2) sc_table_of.nd rfl (.inl rfl))) (fun _ _ _ _ _ => pts_nil) (fun _ _ _ _ _ => (pv 2)) (fun _ _ _ _ _ => (pe_mth (pv 0) T.cls_Keeper T.m_Keeper_decided (ok_Keeper_decided T) (hr.mono (by decide)) pass0 (pa_cons (pv 2) pa_nil)))))), ?_⟩), F.bindsN fun _ _ _ _ _ _ us hl => match us, hl with | [_, _], _ => rfl⟩
  rintro ⟨y, v⟩ F0 hE ⟨_, hk, hw, _⟩
  cases hd : dueW v with
  | some t => exact z_ret (z_cmp (av_z rfl hd hw (hE t hd)))
  | none =>
    refine s_ret (R0 := fun F v => ∃ D ks, v = .ref D ∧ F D = some (dctO P w D ks)) ?_ cl_X fun u F H' j r => ⟨rfl, trivial⟩
    refine e_dcT (K := K) (β := List Str) (Py := fewS) (Dd := viewsD) (Rv := fun F v => ∃ e, atD y.rs.length e ∧ Dat K F e v) (ns := [2]) (up := fun d ρ => ρ.set 2 (some (MP.d K d))) (fun d => d) ?_ (fun d => gt_name) (by simp) rfl (fun ys _ d _ => e_dv (d := d)) (fun ys hy d hd => view_key (views_view hy.2 d hd)) (fun ys hy d hd => ?_) (fun ys hy => by have := (views_len hy.1).1; omega)
    · exact av_src rfl hd hw
    refine e_methR (α := Kd × PyData) (y, d) (e_var (m := y.mp K) rfl) (a_cons (e_dv (d := d)) a_nil) (fun F v vs r1 r2 => ?_) rfl
    cases r2 with
    | cons a b =>
      cases b
      exact ⟨rfl, hk, views_view hy.2 d hd, _, _, rfl, r1, a⟩
theorem ok_choice (T : Tx w h K mg) : FOk P w K mg base CX0 4 "choice" ["keeper", "view"] (spR (α := Kd × PyData) 2 (fun y F vs => y.1.ok ∧ viewD y.2 ∧ ∃ v u, vs = [v, u] ∧ (y.1.mp K).R F v ∧ Dat K F y.2 u) (fun _ F v => ∃ d, chD d ∧ Dat K F d v)) := by
  obtain ⟨fd, F⟩ := T.d_choice
  refine ⟨T.g_choice, F.kp, fd, okR F sc_choice (fun y => [y.1.mp K, MP.d K y.2]) (fun x F vs hl ⟨_, _, v, u, e, r, r2⟩ => by subst e; exact slok_mv (.cons r (.cons r2 .nil))) (fun cdv A outer s H E hr => ⟨_, (pss_cons (ps_set (i := 2) sc_choice.nd rfl (.inl rfl) (pe_mth (pv 0) T.cls_Keeper T.m_Keeper_decided (ok_Keeper_decided T) (hr.mono (by decide)) pass0 (pa_cons (pv 1) pa_nil)))
    (pss_one (ps_ret (pe_ifExp (pt_cmpR op_isN (pv 2) pe_non (nomark _)) pe_non (pe_slice (kk_slT (K := K) rfl) (pe_ix (kk_ixT (K := K) rfl) (pe_prp (pv 0) T.cls_Keeper T.p_rules (ok_Keeper_rules T) (hr.mono (by decide)) pass0) (pv 2) (fun _ _ => rfl)) (po_some pe_int) po_none))))), ?_⟩), F.bindsN fun _ _ _ _ _ _ us hl => match us, hl with | [_, _], _ => rfl⟩
  rintro ⟨⟨nm, ws, rs⟩, d⟩
  refine St.get (P := Kd.ok ⟨nm, ws, rs⟩ ∧ viewD d) (fun ⟨hk, hv⟩ => ?_) fun F H ⟨vs, hp⟩ => ⟨hp.1, hp.2.1⟩
  refine St.pre (J := JT) ?_ fun _ _ _ => trivial
  refine q_asgX (P := atD rs.length) (m := fun d => MP.d K d) ?_ cl_T fun at_ ha => ?_
  · refine e_methR (α := Kd × PyData) (⟨nm, ws, rs⟩, d) (e_var (m := Kd.mp K ⟨nm, ws, rs⟩) rfl) (a_cons (e_dv (d := d)) a_nil) (fun F v vs r1 r2 => ?_) rfl
    cases r2 with
    | cons a b =>
      cases b
      exact ⟨rfl, hk, hv, _, _, rfl, r1, a⟩
  rcases ha with rfl | ⟨i, hi, rfl⟩
  · refine s_ret (R0 := fun F v => ∃ d, chD d ∧ Dat K F d v) (e_if (b := true) (b_test (K := K) (e_isNd (e_dv (d := .none)))) (fun _ => e_non.imp fun F v r => ⟨.none, ⟨rfl, rfl⟩, r⟩) (fun z => by cases z)) cl_T fun _ _ _ _ r => r
  · have hr' : ∃ r, rs[i]? = some r := ⟨rs[i], List.getElem?_eq_getElem hi⟩
    obtain ⟨r, hr'⟩ := hr'
    obtain ⟨ss, cs, dd, rfl, _, h4, _, h6, _⟩ := hk.2.2.1 r (List.mem_of_getElem? hr')
    refine s_ret (R0 := fun F v => ∃ d, chD d ∧ Dat K F d v) (e_if (b := false) (b_test (K := K) (e_isNd (e_dv (d := .int (i : Nat))))) (fun z => by cases z) (fun _ => (e_slT (ds := [.tuple (ss.map PyData.str), dd, .tuple (cs.map PyData.str)]) (e_ixT (ds := rs) (i := (i : Nat)) (e_prop (m := MP.d K (.tuple rs)) (ms := Kd.ms K ⟨nm, ws, rs⟩) (e_var (m := Kd.mp K ⟨nm, ws, rs⟩) rfl) rfl) (e_dv (d := .int (i : Nat))) ?_) (p_some (K := K) e_int) p_none).imp fun F v r => ⟨_, ?_, r⟩)) cl_T fun _ _ _ _ r => r
    · exact atI_nat hr'
    · show chD (.tuple (cutD _ (some ((1 : Nat) : Int)) none))
      rw [cut_from']
      exact ch_rule h4 h6
end
end K47

set_option Elab.async false
set_option linter.all false
set_option maxRecDepth 100000
set_option maxHeartbeats 4000000
/-! PD47f: parted, idle, trimmed. -/
namespace LK
open PySem PySem.Spec PyProof.Rows L2
theorem rngD_mem {lo : Int} {n : Nat} {d : PyData} (h : d ∈ rngD lo n) : ∃ i : Nat, i < n ∧ d = .int (lo + i) := by
  obtain ⟨i, hi⟩ := List.mem_iff_getElem?.mp h
  exact ⟨i, rngD_get hi⟩
theorem intsC_mem {lo c : Int} {n : Nat} {d : PyData} (h : d ∈ intsC lo c n) : ∃ i : Nat, i < n ∧ d = .int (lo + (i : Int) * c) := by
  obtain ⟨i, hi⟩ := List.mem_iff_getElem?.mp h
  exact ⟨i, intsC_get hi⟩
theorem e_neg {K : PySem.W.Frag} {ρ : Ro} {te : TE} {i : Int} (h : Ev K te ρ (.int i)) : Ev K (tUn (rU fun i => .int (-i)) te) ρ (.int (-i)) := fun F H σ s sl Q q => h F H σ s sl _ fun v F1 H1 l1 r1 => by
  cases r1
  exact ⟨i, rfl, q _ F1 H1 l1 (.int _)⟩
theorem e_isNb (K : PySem.W.Frag) {ρ : Ro} {ta : TE} {R0 : Hp → V → Prop} (ha : EvR ta ρ R0) : EvR (tOp (fun x y H Q => y = .non ∧ Q (.bl (decide (x = .non))) H) ta (tC .non)) ρ (fun F v => ∃ b, Dat K F (.bool b) v) := (e_isN ha).imp fun F v ⟨u, _, e⟩ => by
  subst e
  exact ⟨_, .bl _⟩
def intOf : PyData → Int
  | .int i => i
  | _ => 0
end LK
namespace K47
open PySem PySem.Spec PyProof.Rows L2 LK
section
variable {P : Program} {w : World} {h : Heap} {K : PySem.W.Frag} {mg : Str → Option Value} {base : Heap}
abbrev spPart (K : PySem.W.Frag) : Sp := spX K (He.ga K "BadWord") "thing" (α := Kd × Kd × PyData) 3 (fun y F vs => y.1.ok ∧ y.2.1.ok ∧ okW y.2.2 ∧ ∃ a b u, vs = [a, b, u] ∧ (y.1.mp K).R F a ∧ (y.2.1.mp K).R F b ∧ Dat K F y.2.2 u) (fun y => dueW y.2.2) (fun _ _ _ => True)
theorem ok_parted (T : Tx w h K mg) : FOk P w K mg base (L2.CX P w) 5 "parted" ["one", "other", "words"] (spPart K) := by
  obtain ⟨fd, F⟩ := T.d_parted
  refine ⟨T.g_parted, F.kp, fd, okX F sc_parted (fun y => [y.1.mp K, y.2.1.mp K, MP.d K y.2.2]) (fun x F vs hl ⟨_, _, _, a, b, u, e, r, r1, r2⟩ => by subst e; exact slok_mv (.cons r (.cons r1 (.cons r2 .nil)))) (fun cdv A outer s H E hr => ⟨_, (pss_cons (ps_for (passes_of rfl) rfl (kk_pi_list (K := K) rfl (LK.pe_fn (ok_all_views T) (hr.mono (by decide)) (passes_call (takes_of rfl rfl rfl rfl) (fun _ _ _ _ h => h)) (pa_cons (pv 2) pa_nil))) (pg_name (i := 3) sc_parted.nd rfl (.inl rfl)) (pss_one (ps_if (pt_cmpR (kk_neD (K := K) rfl hr.units) (LK.pe_fn (ok_choice T) (hr.mono (by decide)) pass0 (pa_cons (pv 0) (pa_cons (pv 3) pa_nil))) (LK.pe_fn (ok_choice T) (hr.mono (by decide)) pass0 (pa_cons (pv 1) (pa_cons (pv 3) pa_nil))) (nomark _)) (pss_one (ps_ret (pv 3))) pss_nil)))
    (pss_one (ps_ret pe_non))), ?_⟩), F.bindsN fun _ _ _ _ _ _ us hl => match us, hl with | [_, _, _], _ => rfl⟩
  rintro ⟨y, z, v⟩ F0 hE ⟨_, hk, hz, hw, _⟩
  cases hd : dueW v with
  | some t => exact z_for (av_z rfl hd hw (hE t hd))
  | none =>
    refine q_forX (K := K) (ns := [3]) (up := fun d ρ => ρ.set 3 (some (MP.d K d))) (ρL := [some (y.mp K), some (z.mp K), some (MP.d K v), none]) (av_src rfl hd hw) cl_X (fun _ _ d _ => gt_name) (fun _ => JX F0 H) (WeakL.refl _) (fun _ _ j => j) (fun _ => cl_X) (fun ys hy i d hd' => ?_) (fun ys hy => s_ret (e_non (K := K)) cl_X fun v F H' j r => ⟨rfl, trivial⟩)
    have hv := views_view hy.2 d (List.mem_of_getElem? hd')
    refine s_ifS (sb_test (e_neX (Pd := chD) (fun d h => h) (e_callR (y, d) ?_) (e_callR (z, d) ?_)) cl_X) (s_ret (e_dv (d := d)) cl_X fun v F H' j r => ⟨rfl, trivial⟩) (s_next fun F H' j => ⟨(by repeat (first | exact WeakL.nil | refine WeakL.same ?_ | refine WeakL.drop ?_)), j⟩)
    · exact fun F H σ s sl Q q => e_var (m := y.mp K) rfl F H σ s sl _ fun a F1 H1 l1 r1 => a_cons (e_dv (d := d)) a_nil F1 H1 σ l1.s (sl.mono l1.f) _ fun vs F2 H2 l2 r2 => q (a :: vs) F2 H2 (l1.trans l2) (by
        cases r2 with
        | cons x t =>
          cases t
          exact ⟨rfl, hk, hv, _, _, rfl, (y.mp K).mono l2.f r1, x⟩)
    · exact fun F H σ s sl Q q => e_var (m := z.mp K) rfl F H σ s sl _ fun a F1 H1 l1 r1 => a_cons (e_dv (d := d)) a_nil F1 H1 σ l1.s (sl.mono l1.f) _ fun vs F2 H2 l2 r2 => q (a :: vs) F2 H2 (l1.trans l2) (by
        cases r2 with
        | cons x t =>
          cases t
          exact ⟨rfl, hz, hv, _, _, rfl, (z.mp K).mono l2.f r1, x⟩)
abbrev spKw (K : PySem.W.Frag) : Sp := spX K (He.ga K "BadWord") "thing" (α := Kd × PyData) 2 (fun y F vs => y.1.ok ∧ okW y.2 ∧ ∃ v u, vs = [v, u] ∧ (y.1.mp K).R F v ∧ Dat K F y.2 u) (fun y => dueW y.2) (fun _ _ _ => True)
theorem fn_idle (T : Tx w h K mg) : ∃ fd, FnOk P w K mg base (L2.CX P w) 5 (He.ga K "idle") fd ["keeper", "words"] (spKw K) ∧ KBinds K fd ["keeper", "words"] ["words"] two two ∧ PySem.W.keepIn K (.ref (He.ga K "idle")) = true := by
  obtain ⟨fd, F⟩ := T.d_idle
  refine ⟨fd, okX F sc_idle (fun y => [y.1.mp K, MP.d K y.2]) (fun x F vs hl ⟨_, _, v, u, e, r, r2⟩ => by subst e; exact slok_mv (.cons r (.cons r2 .nil))) (fun cdv A outer s H E hr => ⟨_, (pss_cons (ps_set (i := 2) sc_idle.nd rfl (.inr rfl) (pe_dcK (own := [("view", 3)]) rfl sc_idle.nd (kk_pi_list (K := K) rfl (LK.pe_fn (ok_all_views T) (hr.mono (by decide)) (passes_call (takes_of rfl rfl rfl rfl) (fun _ _ _ _ h => h)) (pa_cons (pv 1) pa_nil))) (blkOk_by (N := ["keeper", "words", "found", "view", "at"]) (sc := defScope st_idle) (by decide +kernel)) (fun _ _ _ _ _ => (pg_name (i := 3) sc_idle.nd rfl (.inl rfl))) (fun _ _ _ _ _ => pts_nil) (fun _ _ _ _ _ => (pe_mth (pv 0) T.cls_Keeper T.m_Keeper_decided (ok_Keeper_decided T) (hr.mono (by decide)) pass0 (pa_cons (pv 3) pa_nil))) (fun _ _ _ _ _ => pe_bl)))
    (pss_one (ps_ret (pe_lc (own := [("at", 4)]) rfl sc_idle.nd (pi_range1 rfl T.f_range (pa_cons (pe_callB (cr_lenO T.lenK (ok_Keeper_len T) (hr.mono (by decide))) (by rfl) T.f_len boot_len (pa_cons (pv 0) pa_nil)) pa_nil)) (blkOk_by (N := ["keeper", "words", "found", "view", "at"]) (sc := defScope st_idle) (by decide +kernel)) (fun _ _ _ _ _ => (pg_name (i := 4) sc_idle.nd rfl (.inl rfl))) (fun _ _ _ _ _ => (pts_one (pt_cmp (kk_notinK (P := P) (w := w) rfl rfl (pv 4) (pv 2))))) (fun _ _ _ _ _ => (pv 4)))))), ?_⟩), ⟨fun s us ws _ hl => ?_, two_vals⟩, F.kp⟩
  · rintro ⟨y, v⟩ F0 hE ⟨_, hk, hw, _⟩
    cases hd : dueW v with
    | some t => exact z_asg (z_cmp (av_z rfl hd hw (hE t hd)))
    | none =>
      refine q_asgX (P := fun _ : List Leaf => True) (m := fun ks => MP.dl P w ks) ?_ cl_X fun ks _ => ?_
      · refine EvR.imp (R := fun F v => ∃ D ks, v = .ref D ∧ F D = some (dclO P w D ks)) ?_ fun F u ⟨D, ks, e1, e2⟩ => ⟨ks, trivial, D, e1, e2⟩
        refine e_dcK (K := K) (β := List Str) (Py := fewS) (Dd := viewsD) (Rk := fun F v => ∃ e, atD y.rs.length e ∧ Dat K F e v) (Rv := fun F v => Dat K F (.bool true) v) (ns := [3]) (up := fun d ρ => ρ.set 3 (some (MP.d K d))) ?_ (fun d => gt_name) (by simp) rfl (fun ys hy d hd => ?_) (fun F v ⟨e, he, r⟩ => ?_) (fun ys hy d hd => e_bl) (fun ys hy => by have := (views_len hy.1).1; omega)
        · exact av_src rfl hd hw
        · refine e_methR (α := Kd × PyData) (y, d) (e_var (m := y.mp K) rfl) (a_cons (e_dv (d := d)) a_nil) (fun F v vs r1 r2 => ?_) rfl
          cases r2 with
          | cons a b =>
            cases b
            exact ⟨rfl, hk, views_view hy.2 d hd, _, _, rfl, r1, a⟩
        · rcases he with rfl | ⟨i, _, rfl⟩
          · exact ⟨_, leaf_of r rfl⟩
          · exact ⟨_, leaf_of r rfl⟩
      · have h8 : y.rs.length ≤ 8 := hk.2.2.2
        refine s_ret (R0 := fun F v => Dat K F (.list (((rngD 0 y.rs.length).filter fun d => !ks.contains (Leaf.num (intOf d))).map fun d => d)) v) ?_ cl_X fun v F H' j r => ⟨rfl, trivial⟩
        refine e_lc (ns := [4]) (up := fun d ρ => ρ.set 4 (some (MP.d K d))) _ (fun d => d) (src_rng1 (n := (y.rs.length : Nat)) (a_cons (e_lenO (n := 0) (α := Kd) y (fun y => y.rs.length) (e_var (m := y.mp K) rfl) (fun F v r => ⟨v, rfl, r⟩) (by omega)) a_nil) (by omega) (by omega)) (fun d => gt_name) (fun _ h => h) ?_ (fun d hd => ?_) (fun d hd _ => e_dv (d := d))
        · rw [rngD_len]; exact sz_lt (by omega)
        · obtain ⟨i, hi, rfl⟩ := rngD_mem hd
          exact b_test (e_notInK (e_dv (d := .int (0 + (i : Int)))) (e_var (m := MP.dl P w ks) rfl) rfl)
  · obtain ⟨oc, od, dV, kV, doc, pm, an, cdv, ct, osl, rfl, lk, hcd, hD, hK⟩ := F.ex
    rcases hD with ⟨_, rfl⟩ | ⟨e, _⟩
    · match us, ws, hl with
      | [a], [b], _ => exact .of_eq rfl
    · exact absurd rfl e
theorem ok_idle (T : Tx w h K mg) : KOk P w K mg base (L2.CX P w) 5 "idle" ["keeper", "words"] "words" (spKw K) := by
  obtain ⟨fd, h1, h2, h3⟩ := fn_idle (P := P) (base := base) T
  exact ⟨T.g_idle, h3, fd, h1, h2⟩
theorem ok_trimmed (T : Tx w h K mg) : FOk P w K mg base (L2.CX P w) 6 "trimmed" ["keeper", "words"] (spKw K) := by
  obtain ⟨fd, F⟩ := T.d_trimmed
  refine ⟨T.g_trimmed, F.kp, fd, okX F sc_trimmed (fun y => [y.1.mp K, MP.d K y.2]) (fun x F vs hl ⟨_, _, v, u, e, r, r2⟩ => by subst e; exact slok_mv (.cons r (.cons r2 .nil))) (fun cdv A outer s H E hr => ⟨_, (pss_cons (ps_expr (LK.pe_fn (ok_need_words T) (hr.mono (by decide)) (passes_call (takes_of rfl rfl rfl rfl) (fun _ _ _ _ h => h)) (pa_cons (pv 1) pa_nil)))
    (pss_cons (ps_set (i := 2) sc_trimmed.nd rfl (.inl rfl) (pv 0))
    (pss_cons (ps_for (passes_of rfl) rfl (pi_range3 rfl T.f_range (pa_cons (pe_op op_sub (pe_callB (cr_lenO T.lenK (ok_Keeper_len T) (hr.mono (by decide))) (by rfl) T.f_len boot_len (pa_cons (pv 0) pa_nil)) pe_int) (pa_cons (pe_un un_neg pe_int) (pa_cons (pe_un un_neg pe_int) pa_nil)))) (pg_name (i := 3) sc_trimmed.nd rfl (.inl rfl)) (pss_cons (ps_set (i := 4) sc_trimmed.nd rfl (.inl rfl) (pe_new T.mk_Keeper (ok_Keeper_init T) (hr.mono (by decide)) rfl T.g_Keeper pass0 (pa_cons (pe_prp (pv 2) T.cls_Keeper T.p_name (ok_Keeper_name T) (hr.mono (by decide)) pass0) (pa_cons (pe_prp (pv 2) T.cls_Keeper T.p_wants (ok_Keeper_wants T) (hr.mono (by decide)) pass0) (pa_cons (pe_op (kk_catA (K := K) rfl) (pe_slice (kk_slT (K := K) rfl) (pe_prp (pv 2) T.cls_Keeper T.p_rules (ok_Keeper_rules T) (hr.mono (by decide)) pass0) po_none (po_some (pv 3))) (pe_slice (kk_slT (K := K) rfl) (pe_prp (pv 2) T.cls_Keeper T.p_rules (ok_Keeper_rules T) (hr.mono (by decide)) pass0) (po_some (pe_op op_add (pv 3) pe_int)) po_none)) pa_nil)))))
    (pss_one (ps_if (pt_cmpR op_isN (LK.pe_fn (ok_parted T) (hr.mono (by decide)) (passes_call (takes_of rfl rfl rfl rfl) (fun _ _ _ _ h => h)) (pa_cons (pv 2) (pa_cons (pv 4) (pa_cons (pv 1) pa_nil)))) pe_non (nomark _)) (pss_one (ps_set (i := 2) sc_trimmed.nd rfl (.inl rfl) (pv 4))) pss_nil))))
    (pss_one (ps_ret (pv 2)))))), ?_⟩), F.bindsN fun _ _ _ _ _ _ us hl => match us, hl with | [_, _], _ => rfl⟩
  rintro ⟨y, v⟩ F0 hE ⟨_, hk, hw, _⟩
  cases hd : dueW v with
  | some t => exact z_drop (z_callX v hd (hE t hd) (fun F H σ s sl Q q => a_cons (e_dv (d := v)) a_nil F H σ s sl Q fun vs F2 H2 l r => q vs F2 H2 l ⟨by rw [← r.length]; rfl, hw, r⟩))
  | none =>
    have h8 : y.rs.length ≤ 8 := hk.2.2.2
    refine q_drop (EvS.of (e_callX v hd (fun F H σ s sl Q q => a_cons (e_dv (d := v)) a_nil F H σ s sl Q fun vs F2 H2 l r => q vs F2 H2 l ⟨by rw [← r.length]; rfl, hw, r⟩)) cl_X) (fun _ F H' j => j.1) ?_
    refine q_asg (m := MP.x Kd.ok (Kd.mp K)) (e_x y hk (e_var (m := y.mp K) rfl)) cl_X ?_
    refine q_for (K := K) (ns := [3]) (up := fun d ρ => ρ.set 3 (some (MP.d K d))) (ρL := [some (y.mp K), some (MP.d K v), some (MP.x Kd.ok (Kd.mp K)), none, none]) (src_rng3 (i := (y.rs.length : Nat) - 1) (j := -1) (c := -1) (a_cons (e_I0 (g := fun i j => i - j) (e_lenO (n := 0) (α := Kd) y (fun y => y.rs.length) (e_var (m := y.mp K) rfl) (fun F v r => ⟨v, rfl, r⟩) (by omega)) e_int) (a_cons (e_neg e_int) (a_cons (e_neg e_int) a_nil))) (RgC.neg (by omega) (by omega) (by omega) (by omega))) cl_X (fun d _ => gt_name) (fun _ => JX F0 H) (WeakL.refl _) (fun _ _ j => j) (fun _ => cl_X) (fun i d hd' => ?_) (s_ret (e_var (m := MP.x Kd.ok (Kd.mp K)) rfl) cl_X fun v F H' j r => ⟨rfl, trivial⟩)
    obtain ⟨k, hk', rfl⟩ := intsC_mem (List.mem_of_getElem? hd')
    obtain ⟨at_, hat⟩ : ∃ n : Nat, (y.rs.length : Int) - 1 + (k : Int) * (-1) = (n : Nat) := ⟨((y.rs.length : Int) - 1 + (k : Int) * (-1)).toNat, by omega⟩
    rw [hat]
    refine s_open (i := 2) rfl fun z hz => ?_
    obtain ⟨nm, ws, rs⟩ := z
    have hz4 : rs.length ≤ 8 := hz.2.2.2
    refine q_asgX (P := Kd.ok) (m := Kd.mp K) ?_ cl_X fun z2 hz2 => ?_
    · refine EvR.imp (e_makeX (α := Ki) (β := Kd) (Pm := Ki.gives) ⟨nm, .tuple (ws.map PyData.str), ws, .tuple (rs.take at_ ++ rs.drop (at_ + 1)), rs.take at_ ++ rs.drop (at_ + 1)⟩ ?_) fun F v ⟨z, hz, r⟩ => ⟨z, hz.2.1, r⟩
      refine fun F H σ s sl Q q => a_cons (d := .str nm) (e_prop (m := MP.d K (.str nm)) (ms := Kd.ms K ⟨nm, ws, rs⟩) (e_var (m := Kd.mp K ⟨nm, ws, rs⟩) rfl) rfl) (a_cons (d := .tuple (ws.map PyData.str)) (e_prop (m := MP.d K (.tuple (ws.map PyData.str))) (ms := Kd.ms K ⟨nm, ws, rs⟩) (e_var (m := Kd.mp K ⟨nm, ws, rs⟩) rfl) rfl) (a_cons (d := .tuple (rs.take at_ ++ rs.drop (at_ + 1))) ?_ a_nil)) F H σ s sl Q fun vs F2 H2 l r => q vs F2 H2 l ⟨by rw [← r.length]; rfl, ⟨hz.1, rfl, hz.2.1, rfl, fun r hr => ?_, ?_⟩, r⟩
      · exact e_catT
          ((e_slT (ds := rs) (e_prop (m := MP.d K (.tuple rs)) (ms := Kd.ms K ⟨nm, ws, rs⟩) (e_var (i := 2) (m := Kd.mp K ⟨nm, ws, rs⟩) rfl) rfl) p_none (p_some (e_dv (i := 3) (d := .int (at_ : Nat))))).is (congrArg PyData.tuple cut_to'))
          ((e_slT (ds := rs) (e_prop (m := MP.d K (.tuple rs)) (ms := Kd.ms K ⟨nm, ws, rs⟩) (e_var (i := 2) (m := Kd.mp K ⟨nm, ws, rs⟩) rfl) rfl) (p_some ((e_I0 (g := fun i j => i + j) (e_dv (i := 3) (d := .int (at_ : Nat))) e_int).is (e := .int ((at_ + 1 : Nat) : Int)) (by simp))) p_none).is (congrArg PyData.tuple cut_from')) (by
            have : (8 : Nat) ≤ sizeLine := by decide
            rw [List.length_take, List.length_drop]; omega)
      · rcases List.mem_append.mp hr with h | h
        · exact hz.2.2.1 r (List.mem_of_mem_take h)
        · exact hz.2.2.1 r (List.mem_of_mem_drop h)
      · show (rs.take at_ ++ rs.drop (at_ + 1)).length ≤ 8
        rw [List.length_append, List.length_take, List.length_drop]; omega
    · refine s_ifS (sb_test (e_isNb K (e_callX (α := Kd × Kd × PyData) (⟨nm, ws, rs⟩, z2, v) hd ?_)) cl_X) (s_asg (m := MP.x Kd.ok (Kd.mp K)) (e_x z2 hz2 (e_var (m := z2.mp K) rfl)) cl_X fun F H' j => ⟨(by repeat (first | exact WeakL.nil | refine WeakL.same ?_ | refine WeakL.drop ?_)), j⟩) (s_next fun F H' j => ⟨.same (.same (.imp (fun F v r => ⟨_, hz, r⟩) (.drop (.drop .nil)))), j⟩)
      exact fun F H σ s sl Q q => e_var (m := Kd.mp K ⟨nm, ws, rs⟩) rfl F H σ s sl _ fun a F1 H1 l1 r1 => e_var (m := z2.mp K) rfl F1 H1 σ l1.s (sl.mono l1.f) _ fun b F2 H2 l2 r2 => a_cons (e_dv (d := v)) a_nil F2 H2 σ l2.s (sl.mono (l1.f.trans l2.f)) _ fun vs F3 H3 l3 r3 => q (a :: b :: vs) F3 H3 ((l1.trans l2).trans l3) (by
        cases r3 with
        | cons x t =>
          cases t
          exact ⟨rfl, hz, hz2, hw, _, _, _, rfl, (Kd.mp K ⟨nm, ws, rs⟩).mono (l2.f.trans l3.f) r1, (z2.mp K).mono l3.f r2, x⟩)
end
end K47

set_option Elab.async false
set_option linter.all false
set_option maxRecDepth 100000
set_option maxHeartbeats 4000000
/-! PD47g: the law's own word test and its answer. -/
namespace LK
open PySem PySem.Spec PyProof.Rows L2
theorem inD_int {x : Int} : ∀ {xs : List Int}, inD (.int x) (xs.map PyData.int) = decide (x ∈ xs)
  | [] => by rfl
  | y :: ys => by
    have ih := inD_int (x := x) (xs := ys)
    unfold inD inV at ih ⊢
    rw [List.map_cons, List.map_cons, List.any_cons, ih]
    show ((y == x) || _) = _
    by_cases e : y = x
    · subst e; simp
    · have : (y == x) = false := by simpa using e
      rw [this, Bool.false_or, Bool.eq_iff_iff]
      simp [Ne.symm e]
theorem flat_ints (xs : List Int) : (xs.map PyData.int).all flatD = true := by
  rw [List.all_map]; exact List.all_eq_true.mpr fun _ _ => rfl
/-- a text that can be shown -/
def okT (v : PyData) : Prop := ∀ x, v = .str x → x.length ≤ sizeLine ∧ PyData.strOk x = true
def okI (v : PyData) : Prop := ∀ ds, itemsD v = some ds → ∀ d ∈ ds, okT d
def dueL (v : PyData) : List PyData := match dueW v with
  | none => []
  | some t => [t]
theorem lay_all : ∀ {ds : List PyData}, (∀ d ∈ ds, PyData.canLay0 d = true) → PyData.canLayAll0 ds = true
  | [], _ => by simp [PyData.canLayAll0]
  | d :: ds, h => by
    have h1 := h d (by simp)
    have h2 := lay_all fun y hy => h y (List.mem_cons_of_mem d hy)
    simp [PyData.canLayAll0, h1, h2]
theorem dep_all : ∀ {ds : List PyData} {n : Nat}, (∀ d ∈ ds, PyData.depth d ≤ n) → PyData.depthAll ds ≤ n
  | [], _, _ => by simp [PyData.depthAll]
  | d :: ds, n, h => by
    have h1 := h d (by simp)
    have h2 := dep_all (ds := ds) fun y hy => h y (List.mem_cons_of_mem d hy)
    simp only [PyData.depthAll]
    omega
theorem nod_all : ∀ {ds : List PyData}, (∀ d ∈ ds, PyData.hasDict d = false) → PyData.hasDictAll ds = false
  | [], _ => by simp [PyData.hasDictAll]
  | d :: ds, h => by
    have h1 := h d (by simp)
    have h2 := nod_all fun y hy => h y (List.mem_cons_of_mem d hy)
    simp [PyData.hasDictAll, h1, h2]
theorem signs_flat {x : Str} (h : PyData.strOk x = true) {f : PyData → Bool} : (PyData.list (((signs x).filter f).map fun d => d)).hasDict = false ∧ SeqAt.shaped (.list (((signs x).filter f).map fun d => d)) = true := by
  have key : ∀ d ∈ ((signs x).filter f).map fun d => d, PyData.canLay0 d = true ∧ PyData.depth d ≤ 1 ∧ PyData.hasDict d = false := fun d hd => by
    rw [List.map_id'] at hd
    obtain ⟨c, hc, rfl⟩ := List.mem_map.mp (List.mem_filter.mp hd).1
    unfold PyData.strOk at h
    rw [Array.all_eq_true'] at h
    have h2 := h c (by simpa using hc)
    refine ⟨?_, by simp [PyData.depth], by simp [PyData.hasDict]⟩
    simp only [PyData.canLay0]
    unfold PyData.strOk
    rw [Array.all_eq_true']
    intro b hb
    have : b = c := by simpa using hb
    rw [this]; exact h2
  have h1 := lay_all fun d hd => (key d hd).1
  have h2 := dep_all fun d hd => (key d hd).2.1
  have h3 := nod_all fun d hd => (key d hd).2.2
  refine ⟨by simpa [PyData.hasDict] using h3, ?_⟩
  have hd : PyData.depth (.list (((signs x).filter f).map fun d => d)) ≤ 64 := by
    simp only [PyData.depth]
    omega
  have hc : PyData.canLay0 (.list (((signs x).filter f).map fun d => d)) = true := by
    simp only [PyData.canLay0]
    exact h1
  unfold SeqAt.shaped
  rw [hc, decide_eq_true hd]
  rfl
theorem eqv_nil {ds : List PyData} : PyData.eqv (.list ds) (.list []) = ds.isEmpty := by
  cases ds <;> rfl
end LK
namespace K47
open PySem PySem.Spec PyProof.Rows L2 LK
section
variable {P : Program} {w : World} {h : Heap} {K : PySem.W.Frag} {mg : Str → Option Value} {base : Heap}
theorem ok_law_is_plain_word (T : Tx w h K mg) : FOk P w K mg base CX0 1 "_law_is_plain_word" ["_law_thing"] (spD K 1 fun ds d => ∃ v, ds = [v] ∧ okT v ∧ d = .bool (wordD v)) := by
  obtain ⟨fd, F⟩ := T.d_law_is_plain_word
  refine ⟨T.g_law_is_plain_word, F.kp, fd, okD F sc_law_is_plain_word (fun cdv A outer s H E hr => ⟨_, (pss_cons (ps_if (PW.pt (pw_or (pt_not (pt_val (pe_callB (kk_isi (K := K) rfl) (by rfl) T.f_isinstance boot_isinstance (pa_cons (pv 0) (pa_cons (pe_bltn (v := .ty "str") (by rfl) T.f_str boot_str rfl) pa_nil))))) (pw_or1 (pt_cmpR (kk_notIn_seq (K := K) rfl) (pe_callB call_len_str (by rfl) T.f_len boot_len (pa_cons (pv 0) pa_nil)) (pe_lst (pa_cons pe_int (pa_cons pe_int (pa_cons pe_int (pa_cons pe_int (pa_cons pe_int (pa_cons pe_int (pa_cons pe_int (pa_cons pe_int pa_nil))))))))) rfl)))) (pss_one (ps_ret pe_bl)) pss_nil)
    (pss_one (ps_ret (pe_cmpR (kk_eqD (K := K) rfl hr.units) (pe_lc (own := [("_law_letter", 1)]) rfl sc_law_is_plain_word.nd (pi_str (pv 0)) (blkOk_by (N := ["_law_thing", "_law_letter"]) (sc := defScope st_law_is_plain_word) (by decide +kernel)) (fun _ _ _ _ _ => (pg_name (i := 1) sc_law_is_plain_word.nd rfl (.inl rfl))) (fun _ _ _ _ _ => (pts_one (pt_cmpR op_notIn_sign (pv 1) pe_str rfl))) (fun _ _ _ _ _ => (pv 1))) (pe_lst pa_nil) (nomark _))))), ?_⟩), F.bindsN fun _ _ _ _ _ _ us hl => match us, hl with | [_], _ => rfl⟩
  rintro ds d hl ⟨v, rfl, hz, rfl⟩
  by_cases hb : isiB v "str" = false
  · have e : wordD v = false := by cases v <;> first | rfl | exact absurd hb (by simp only [isiB, tyD]; decide +kernel)
    rw [e]
    exact q_ifret (b := true) ((b_or (b := true) (b_not (b_tb (e_isi (e_dv (d := v)) (kit_str v)))) (fun z => by rw [hb] at z; cases z)).is (by rw [hb]; rfl)) cl_T (fun _ => s_retD e_bl) (fun z => by cases z)
  obtain ⟨x, rfl⟩ : ∃ x, v = .str x := by cases v <;> first | exact ⟨_, rfl⟩ | exact absurd (by simp only [isiB, tyD]; decide +kernel) hb
  obtain ⟨hz1, hz2⟩ := hz x rfl
  have em : ((x.length : Int) ∈ ([1, 2, 3, 4, 5, 6, 7, 8] : List Int)) ↔ ((1 : Int) ≤ x.length ∧ (x.length : Int) ≤ 8) := by
    simp only [List.mem_cons, List.not_mem_nil, or_false]
    omega
  refine q_ifret (b := !decide ((1 : Int) ≤ x.length ∧ (x.length : Int) ≤ 8)) ((b_or (a := false) ((b_not (b_tb ((e_isi (e_dv (d := .str x)) (kit_str _)).is (congrArg PyData.bool (isi_str x))))).is rfl) (fun _ => b_test (e_in (neg := true) (d := .int x.length) (ds := ([1, 2, 3, 4, 5, 6, 7, 8] : List Int).map PyData.int) (e_lenS (e_dv (d := .str x)) hz1) (e_lst (a_cons e_int (a_cons e_int (a_cons e_int (a_cons e_int (a_cons e_int (a_cons e_int (a_cons e_int (a_cons e_int a_nil)))))))) (by decide)) rfl (LK.flat_ints _)))).is (by rw [inD_int, Bool.false_or]; exact congrArg (!·) (decide_eq_decide.mpr em))) cl_T (fun hb => ?_) (fun hb => ?_)
  · have hb2 : ¬ ((1 : Int) ≤ x.length ∧ (x.length : Int) ≤ 8) := of_decide_eq_false ((Bool.not_eq_true' _).mp hb)
    have e : wordD (.str x) = false := by
      show wordS x = false
      unfold wordS
      rw [Bool.and_eq_false_iff]
      left
      rw [← Bool.decide_and]
      exact decide_eq_false hb2
    rw [e]
    exact s_retD e_bl
  · have hb2 : ((1 : Int) ≤ x.length ∧ (x.length : Int) ≤ 8) := of_decide_eq_true ((Bool.not_eq_false' _).mp hb)
    have hz8 : x.cps.toList.length ≤ 8 := by
      have q2 := hb2.2
      show x.cps.toList.length ≤ 8
      have q3 : x.length = x.cps.toList.length := rfl
      omega
    have hw : wordD (.str x) = (x.cps.toList.all fun c => decide (c ∈ lettersS.cps.toList)) := by
      show wordS x = _
      unfold wordS
      rw [decide_eq_true hb2.1, decide_eq_true hb2.2]
      rfl
    have fl := signs_flat hz2 (f := fun d => !(match d with | .str y => decide (y.cps.toList.headD 0 ∈ lettersS.cps.toList) | _ => false))
    refine s_retD ((e_eqD (e_lc (ns := [1]) (up := fun d ρ => ρ.set 1 (some (MP.d K d))) (fun d => !(match d with | .str y => decide (y.cps.toList.headD 0 ∈ lettersS.cps.toList) | _ => false)) (fun d => d) (src_str (e_dv (d := .str x))) (fun d => gt_name) (fun _ h => h) ?_ ?_ (fun d _ _ => e_dv (d := d))) (e_lst a_nil (by decide)) fl.1 rfl fl.2 rfl).is ?_)
    · refine sz_lt ?_
      unfold LK.signs
      rw [List.length_map]
      omega
    · intro d hd
      obtain ⟨c, _, rfl⟩ := List.mem_map.mp hd
      exact b_test (e_notInSign (c := c) (e_dv (d := .str ⟨#[c]⟩)) e_str)
    · rw [eqv_nil, hw]
      refine congrArg PyData.bool ?_
      rw [List.map_id', Bool.eq_iff_iff, List.isEmpty_iff, List.filter_eq_nil_iff, List.all_eq_true]
      unfold LK.signs
      constructor
      · intro h c hc
        have := h (.str ⟨#[c]⟩) (List.mem_map.mpr ⟨c, hc, rfl⟩)
        simpa using this
      · intro h d hd
        obtain ⟨c, hc, rfl⟩ := List.mem_map.mp hd
        have := h c hc
        simpa using this
theorem ok_law_due (T : Tx w h K mg) : FOk P w K mg base CX0 2 "_law_due" ["_law_some"] (spD K 1 fun ds d => ∃ v, ds = [v] ∧ okI v ∧ d = .list (dueL v)) := by
  obtain ⟨fd, F⟩ := T.d_law_due
  refine ⟨T.g_law_due, F.kp, fd, okD F sc_law_due (fun cdv A outer s H E hr => ⟨_, (pss_cons (ps_if (PW.pt (pw_or (pt_not (pt_val (pe_callB (kk_isiT (K := K) rfl) (by rfl) T.f_isinstance boot_isinstance (pa_cons (pv 0) (pa_cons (pe_tup (pa_cons (pe_bltn (v := .ty "list") (by rfl) T.f_list boot_list rfl) (pa_cons (pe_bltn (v := .ty "tuple") (by rfl) T.f_tuple boot_tuple rfl) pa_nil))) pa_nil))))) (pw_or1 (pt_cmpR (kk_notIn_seq (K := K) rfl) (pe_callB (kk_len (K := K) rfl) (by rfl) T.f_len boot_len (pa_cons (pv 0) pa_nil)) (pe_lst (pa_cons pe_int (pa_cons pe_int (pa_cons pe_int pa_nil)))) rfl)))) (pss_one (ps_ret (pe_lst (pa_cons pe_non pa_nil)))) pss_nil)
    (pss_cons (ps_for PassesOwn.never rfl (kk_pi_enum (K := K) rfl (by rfl) T.f_enumerate (pa_cons (pv 0) pa_nil)) (kk_tup (K := K) (n := 2) rfl rfl (pgs_cons (pg_name (i := 1) sc_law_due.nd rfl (.inl rfl)) (pgs_cons (pg_name (i := 2) sc_law_due.nd rfl (.inl rfl)) pgs_nil))) (pss_one (ps_if (PW.pt (pw_or (pt_not (pt_val (LK.pe_fn (ok_law_is_plain_word T) (hr.mono (by decide)) pass0 (pa_cons (pv 2) pa_nil)))) (pw_or1 (pt_cmpR (kk_in_seq (K := K) rfl) (pv 2) (pe_slice (kk_slL (K := K) rfl) (pe_callTy (kk_lstOf (K := K) rfl) (by rfl) T.f_list boot_list (pa_cons (pv 0) pa_nil)) po_none (po_some (pv 1))) rfl)))) (pss_one (ps_ret (pe_lst (pa_cons (pv 2) pa_nil)))) pss_nil)))
    (pss_one (ps_ret (pe_lst pa_nil))))), ?_⟩), F.bindsN fun _ _ _ _ _ _ us hl => match us, hl with | [_], _ => rfl⟩
  rintro ds0 d0 hl0 ⟨v, rfl, hw, rfl⟩
  have hl2 : (isiB v "list" || isiB v "tuple") = listD v := by cases v <;> (simp only [isiB, tyD, listD]; decide +kernel)
  have dl : ∀ {o : Option PyData}, dueW v = o → dueL v = (match o with | none => [] | some t => [t]) := fun {o} e => by unfold dueL; rw [e]
  cases hi : itemsD v with
  | none =>
    rw [dl (due_not hi)]
    exact q_ifret (b := true) ((b_or (a := true) (b := true) ((b_not (b_tb ((e_isi2 (e_dv (d := v)) (kit_list v) (kit_tuple v)).is (congrArg PyData.bool (hl2.trans (items_not hi)))))).is rfl) (fun z => by cases z)).is rfl) cl_T (fun _ => s_retD (e_lst (a_cons e_non a_nil) (by decide))) (fun z => by cases z)
  | some ds =>
    have em : ((ds.length : Int) ∈ ([1, 2, 3] : List Int)) ↔ (1 ≤ ds.length ∧ ds.length ≤ 3) := by
      simp only [List.mem_cons, List.not_mem_nil, or_false]
      omega
    have test : ∀ {ρ : Ro}, ρ[0]? = some (some (MP.d K v)) → EvB _ ρ _ := fun {ρ} hρ => (b_or (a := false) (b := !decide (1 ≤ ds.length ∧ ds.length ≤ 3)) ((b_not (b_tb ((e_isi2 (e_dv (d := v) hρ) (kit_list v) (kit_tuple v)).is (congrArg PyData.bool (hl2.trans (items_list hi)))))).is rfl) (fun _ => (b_test (e_in (neg := true) (d := .int ds.length) (ds := ([1, 2, 3] : List Int).map PyData.int) (e_lenA (e_dv (d := v) hρ) hi) (e_lst (a_cons e_int (a_cons e_int (a_cons e_int a_nil))) (by decide)) rfl (LK.flat_ints _))).is (by rw [inD_int]; exact congrArg (!·) (decide_eq_decide.mpr em)))).is (Bool.false_or _)
    refine q_ifret (test rfl) cl_T (fun hb => ?_) (fun hb => ?_)
    · have hn : ¬ (1 ≤ ds.length ∧ ds.length ≤ 3) := of_decide_eq_false ((Bool.not_eq_true' _).mp hb)
      rw [dl (due_len hi hn)]
      exact s_retD (e_lst (a_cons e_non a_nil) (by decide))
    · have hl : 1 ≤ ds.length ∧ ds.length ≤ 3 := of_decide_eq_true ((Bool.not_eq_false' _).mp hb)
      have hg := due_go hi hl
      refine q_for (ns := [1, 2]) (up := upAR 1 2 K) (ρL := [some (MP.d K v), none, none]) (src_enumA (a_cons (e_dv (d := v)) a_nil) hi) cl_T (fun d hd => ?_) (fun i _ _ => ∃ xs : List Str, ds.take i = xs.map PyData.str ∧ firstBad xs (ds.drop i) = firstBad [] ds) (WeakL.refl _) (fun F H' j => ⟨[], by simp, by simp⟩) (fun i F H' F2 H2 l j => j) (fun i d hd => ?_) (St.get (P := firstBad [] ds = none) (fun hn => ?_) fun F H' j => ?_)
      · obtain ⟨i, r, hr', hi', rfl⟩ := enumD_mem hd
        exact gt_tup (gs_cons gt_name (gs_cons gt_name gs_nil))
      · obtain ⟨e, he, rfl⟩ := enumD_get hd
        have hil := (List.getElem?_eq_some_iff.mp he).1
        have hdrop : ds.drop i = e :: ds.drop (i + 1) := by
          obtain ⟨h1, h2⟩ := List.getElem?_eq_some_iff.mp he
          rw [← h2]
          exact List.drop_eq_getElem_cons h1
        refine St.get (P := ∃ xs : List Str, ds.take i = xs.map PyData.str ∧ firstBad xs (ds.drop i) = firstBad [] ds) (fun ⟨xs, hx1, hx2⟩ => ?_) fun F H' j => j
        rw [hdrop] at hx2
        refine St.pre (J := JT) ?_ fun F H' j => trivial
        have hsz : okT e := hw ds hi e (List.mem_of_getElem? he)
        have htk : ds.take (i + 1) = ds.take i ++ [e] := by rw [List.take_succ, he]; rfl
        cases hwd : wordD e with
        | false =>
          refine s_ifret (b := true) ((b_or (a := true) (b := true) ((b_not (b_tb (e_call (d := .bool (wordD e)) (a_cons (e_dv (d := e)) a_nil) ⟨e, rfl, hsz, rfl⟩))).is (by rw [hwd]; rfl)) (fun z => by cases z)).is rfl) cl_T (fun _ => s_ret (e_lst (a_cons (e_dv (d := e)) a_nil) (by show 1 ≤ sizeLine; decide)) cl_T fun u F H' _ r => ?_) (fun z => by cases z)
          rw [dl (by rw [hg, ← hx2, fb_no hwd])]
          exact r
        | true =>
          obtain ⟨x, rfl, hxw⟩ := word_str hwd
          refine s_ifret (b := decide (x ∈ xs)) ((b_or (a := false) (b := decide (x ∈ xs)) ((b_not (b_tb (e_call (d := .bool (wordD (.str x))) (a_cons (e_dv (d := .str x)) a_nil) ⟨.str x, rfl, hsz, rfl⟩))).is (by rw [hwd]; rfl)) (fun _ => b_test ((e_in (neg := false) (ds := xs.map PyData.str) (e_dv (d := .str x)) ((e_slL (e_lstOf (e_dv (d := v)) hi) p_none (p_some (e_dv (d := .int ((0 + i : Nat) : Int))))).is (by rw [Nat.zero_add, cut_to', hx1])) rfl (LK.flat_strs xs)).is (congrArg PyData.bool inD_str)))).is (Bool.false_or _)) cl_T (fun hb => s_ret (e_lst (a_cons (e_dv (d := .str x)) a_nil) (by show 1 ≤ sizeLine; decide)) cl_T fun u F H' _ r => ?_) (fun hb F H' j => ⟨(by repeat (first | exact WeakL.nil | refine WeakL.same ?_ | refine WeakL.drop ?_)), xs ++ [x], ?_, ?_⟩)
          · rw [dl (by rw [hg, ← hx2, fb_in (of_decide_eq_true hb)])]
            exact r
          · rw [htk, hx1, List.map_append]; rfl
          · rw [← hx2, fb_word hxw (of_decide_eq_false hb)]
      · rw [dl (hg.trans hn)]
        exact s_ret (e_lst a_nil (by decide)) (fun F H' F2 H2 l j => j) fun u F H' _ r => r
      · obtain ⟨xs, hx1, hx2⟩ := j
        rw [enumD_len, List.drop_of_length_le (Nat.le_refl _)] at hx2
        rw [← hx2]; rfl
end
end K47

set_option Elab.async false
set_option linter.all false
set_option maxRecDepth 100000
set_option maxHeartbeats 4000000
/-! PD47h: the law's draws: mixed, take, pick. -/
namespace LK
open PySem PySem.Spec PyProof.Rows L2
def bigI (i : Int) : Prop := i.natAbs < 2 ^ 63
def intD (d : PyData) : Prop := ∃ k : Int, d = .int k
theorem fmod_big {i j : Int} (h : 0 < j) (hj : j < 2 ^ 62) : bigI (i.fmod j) := by
  have h1 := Int.fmod_nonneg_of_pos i h
  have h2 := Int.fmod_lt_of_pos i h
  unfold bigI
  omega
end LK
namespace K47
open PySem PySem.Spec PyProof.Rows L2 LK
section
variable {P : Program} {w : World} {h : Heap} {K : PySem.W.Frag} {mg : Str → Option Value} {base : Heap}
theorem ok_law_mixed (T : Tx w h K mg) : FOk P w K mg base CX0 1 "_law_mixed" ["_law_draw"] (spDrw K 1 (fun b => b = []) (fun _ d => intD d) 1) := by
  obtain ⟨fd, F⟩ := T.d_law_mixed
  refine ⟨T.g_law_mixed, F.kp, fd, okDr F sc_law_mixed (fun cdv A outer s H E hr => ⟨_, (pss_cons (ps_set (i := 1) sc_law_mixed.nd rfl (.inl rfl) (pe_op op_add (pe_dget (hu_of hr) (pv 0) pe_str (fun _ _ => rfl)) pe_int))
    (pss_cons (ps_dput (hu_of hr) (pv 0) pe_str (pv 1) rfl)
    (pss_cons (ps_set (i := 2) sc_law_mixed.nd rfl (.inl rfl) (pe_op op_add (pe_op op_mul pe_int (pv 1)) (pe_callB (kk_len (K := K) rfl) (by rfl) T.f_len boot_len (pa_cons (pe_dget (hu_of hr) (pv 0) pe_str (fun _ _ => rfl)) pa_nil))))
    (pss_cons (ps_for PassesOwn.never rfl (kk_pi_list (K := K) rfl (pe_dget (hu_of hr) (pv 0) pe_str (fun _ _ => rfl))) (pg_name (i := 3) sc_law_mixed.nd rfl (.inl rfl)) (pss_one (ps_set (i := 2) sc_law_mixed.nd rfl (.inl rfl) (pe_op op_modN (pe_callTy call_int1 (by rfl) T.f_int boot_int (pa_cons (pe_op op_add (pe_op op_add (pe_op op_mul (pv 2) pe_int) (pv 3)) (pe_op op_mul pe_int (pv 1))) pa_nil)) pe_int))))
    (pss_cons (ps_for PassesOwn.never rfl (pi_range1 rfl T.f_range (pa_cons pe_int pa_nil)) (pg_name (i := 4) sc_law_mixed.nd rfl (.inl rfl)) (pss_one (ps_set (i := 2) sc_law_mixed.nd rfl (.inl rfl) (pe_op op_modN (pe_callTy call_int1 (by rfl) T.f_int boot_int (pa_cons (pe_op op_add (pe_op op_add (pe_op op_add (pe_op op_mul (pv 2) (pv 2)) (pe_op op_mul pe_int (pv 2))) pe_int) (pv 4)) pa_nil)) pe_int))))
    (pss_one (ps_ret (pv 2)))))))), ?_⟩), F.bindsN fun _ _ _ _ _ _ us hl => match us, hl with | [_], _ => rfl⟩
  rintro D G n b hn rfl _
  refine q_asgE (P := fun d => ∃ t : Nat, t ≤ n + 1 ∧ d = .int t) (sd_op (dr_turn rfl) (sd_of e_int cl_dr) cl_dr fun da db pa pb F H x y s rx ry Q q => ?_) fun d hd => ?_
  · obtain ⟨t, ht, rfl⟩ := pa
    subst pb
    cases rx; cases ry
    exact ⟨_, _, rfl, rfl, q (.int ((t + 1 : Nat) : Int)) _ F H (Fr.refl s) ⟨t + 1, by omega, rfl⟩ (.int _)⟩
  obtain ⟨t, ht, rfl⟩ := hd
  refine q_turn (G := G) (n := n) (m := n + 1) rfl ((sd_of (e_dv (d := .int (t : Nat))) cl_dr).to (fun _ _ j => j) fun d e => ⟨t, ht, e⟩) ?_
  refine q_asgE (P := fun d => ∃ k : Int, bigI k ∧ d = .int k) (sd_op (sd_of (e_I (C := CMul) (g := fun i j => i * j) (i := 7919) (j := (t : Nat)) e_int (e_dv (d := .int (t : Nat))) (.inl ⟨by decide, by decide⟩)) cl_dr) (sd_cb1 (Pz := fun d => ∃ k : Nat, k ≤ 100000 ∧ d = .int k) (dr_cells rfl) cl_dr fun d hd F H x s r Q q => ?_) cl_dr fun da db pa pb F H x y s rx ry Q q => ?_) fun d hd => ?_
  · obtain ⟨cs, hc, rfl⟩ := hd
    cases r with
    | lst hs ha => exact ⟨_, _, rfl, .inl (sql_sub s hs), q (.int (cs.length : Nat)) _ F H (Fr.refl s) ⟨cs.length, hc, rfl⟩ (by rw [← ha.length, List.length_map]; exact .int _)⟩
  · obtain ⟨k, hk, rfl⟩ := pb
    subst pa
    cases rx; cases ry
    exact ⟨_, _, rfl, rfl, q _ _ F H (Fr.refl s) ⟨_, by unfold bigI; omega, rfl⟩ (.int _)⟩
  obtain ⟨k0, hk0, rfl⟩ := hd
  refine q_forD (J1 := DrAt K D G (n + 1)) (Py := fun cs : List Int => cs.length ≤ 100000) (Dd := fun cs => cs.map PyData.int) (ns := [3]) (up := fun d ρ => ρ.set 3 (some (MP.d K d))) (ρL := [some (MP.v (.ref D)), some (MP.d K (.int (t : Nat))), some (MP.x bigI fun k => MP.d K (.int k)), none, none]) (srcD_list (dr_cells rfl)) (fun _ _ d _ => gt_name) (fun _ => DrAt K D G (n + 1)) (.same (.same (.imp (fun F v r => ⟨k0, hk0, r⟩) (.same (.same .nil))))) (fun _ _ j => j) (fun _ => cl_dr) (fun cs _ i d hd => ?_) (fun cs _ => ?_)
  · obtain ⟨z, _, rfl⟩ := List.mem_map.mp (List.mem_of_getElem? hd)
    refine s_open (i := 2) rfl fun k hk => ?_
    refine s_asg (m := MP.x bigI fun k => MP.d K (.int k)) (e_x ((k * 48271 + z + 11 * (t : Nat)).fmod 2147483647) (fmod_big (by decide) (by decide)) (e_I (C := fun _ j => j ≠ 0) (g := fun i j => i.fmod j) (e_cb1 (R := fun F v => Dat K F (.int (k * 48271 + z + 11 * (t : Nat))) v) (e_I0 (g := fun i j => i + j) (e_I0 (g := fun i j => i + j) (e_I (C := CMul) (g := fun i j => i * j) (e_dv (i := 2) (d := .int k)) e_int (.inr ⟨by decide, by decide⟩)) (e_dv (i := 3) (d := .int z))) (e_I (C := CMul) (g := fun i j => i * j) e_int (e_dv (i := 1) (d := .int (t : Nat))) (.inl ⟨by decide, by decide⟩))) fun F H v s r Q q => by cases r; exact .inl ⟨_, rfl, q _ F H (Fr.refl s) (.int _)⟩) e_int (by decide))) cl_dr fun F H' j => ⟨(by repeat (first | exact WeakL.nil | refine WeakL.same ?_ | refine WeakL.drop ?_)), j⟩
  · refine q_for (K := K) (ns := [4]) (up := fun d ρ => ρ.set 4 (some (MP.d K d))) (ρL := [some (MP.v (.ref D)), some (MP.d K (.int (t : Nat))), some (MP.x bigI fun k => MP.d K (.int k)), none, none]) (src_rng1 (a_cons e_int a_nil)) cl_dr (fun d _ => gt_name) (fun _ => DrAt K D G (n + 1)) (WeakL.refl _) (fun _ _ j => j) (fun _ => cl_dr) (fun i d hd => ?_) ?_
    · obtain ⟨z, _, rfl⟩ := rngD_mem (List.mem_of_getElem? hd)
      refine s_open (i := 2) rfl fun k hk => ?_
      refine s_asg (m := MP.x bigI fun k => MP.d K (.int k)) (e_x ((k * k + 16807 * k + 13 + (0 + (z : Int))).fmod 2305843009213693951) (fmod_big (by decide) (by decide)) (e_I (C := fun _ j => j ≠ 0) (g := fun i j => i.fmod j) (e_cb1 (R := fun F v => Dat K F (.int (k * k + 16807 * k + 13 + (0 + (z : Int)))) v) (e_I0 (g := fun i j => i + j) (e_I0 (g := fun i j => i + j) (e_I0 (g := fun i j => i + j) (e_I (C := CMul) (g := fun i j => i * j) (e_dv (i := 2) (d := .int k)) (e_dv (i := 2) (d := .int k)) (.inl ⟨by unfold bigI at hk; omega, by unfold bigI at hk; omega⟩)) (e_I (C := CMul) (g := fun i j => i * j) e_int (e_dv (i := 2) (d := .int k)) (.inl ⟨by decide, by decide⟩))) e_int) (e_dv (i := 4) (d := .int (0 + (z : Int))))) fun F H v s r Q q => by cases r; exact .inl ⟨_, rfl, q _ F H (Fr.refl s) (.int _)⟩) e_int (by decide))) cl_dr fun F H' j => ⟨(by repeat (first | exact WeakL.nil | refine WeakL.same ?_ | refine WeakL.drop ?_)), j⟩
    · exact s_ret (e_var (m := MP.x bigI fun k => MP.d K (.int k)) rfl) cl_dr fun v F H' j r => ⟨j, let ⟨k, _, r⟩ := r; ⟨_, ⟨k, rfl⟩, r⟩⟩
end
end K47

set_option Elab.async false
set_option linter.all false
set_option maxRecDepth 100000
set_option maxHeartbeats 4000000
/-! PD47i: take, pick. -/
namespace LK
open PySem PySem.Spec PyProof.Rows L2
def manyD (b : List PyData) : Prop := ∃ m : Nat, 0 < m ∧ m ≤ 100000 ∧ b = [.int m]
def belowD (b : List PyData) (d : PyData) : Prop := ∃ m k : Nat, b = [.int m] ∧ k < m ∧ d = .int k
def someD (b : List PyData) : Prop := ∃ d ds, b = [d] ∧ itemsP d = some ds ∧ ds ≠ [] ∧ ds.length ≤ 100000
def ofD (b : List PyData) (e : PyData) : Prop := ∃ d ds, b = [d] ∧ itemsP d = some ds ∧ e ∈ ds
abbrev spTake (K : PySem.W.Frag) : Sp := spDrw K 2 manyD belowD 1
abbrev spPick (K : PySem.W.Frag) : Sp := spDrw K 2 someD ofD 1
section
variable {K : PySem.W.Frag} {D G : Addr} {n : Nat} {ρ : Ro} {i : Nat} {te : TE} {tr : TA} {J : JP} {E : XK}
/-- take(draw, m) -/
theorem sd_take {m : Nat} (hi : ρ[i]? = some (some (MP.v (.ref D)))) (h : Ev K te ρ (.int (m : Nat))) (h0 : 0 < m) (hm : m ≤ 100000) (hn : n + 1 < 2 ^ 40) : EvD K (SDr D G) (DrAt K D G n) (DrAt K D G (n + 1)) (tCall (spTake K) [] E (tCons (tVar i) (tCons te tNil))) ρ (fun d => ∃ k : Nat, k < m ∧ d = .int k) :=
  sd_draw (Pb := fun b => b = [.int (m : Nat)]) hi (da_of (a_cons h a_nil) cl_dr) hn (fun b e => by subst e; exact ⟨⟨m, h0, hm, rfl⟩, rfl⟩) fun b d e p => by
    subst e
    obtain ⟨m', k, e, hk, rfl⟩ := p
    have e2 := PyData.int.inj (List.cons.inj e).1
    have e3 : m = m' := by omega
    subst e3
    exact ⟨k, hk, rfl⟩
/-- pick(draw, some) -/
theorem sd_pick {d : PyData} {ds : List PyData} (hi : ρ[i]? = some (some (MP.v (.ref D)))) (h : Ev K te ρ d) (hd : itemsP d = some ds) (h0 : ds ≠ []) (hm : ds.length ≤ 100000) (hn : n + 1 < 2 ^ 40) : EvD K (SDr D G) (DrAt K D G n) (DrAt K D G (n + 1)) (tCall (spPick K) [] E (tCons (tVar i) (tCons te tNil))) ρ (fun e => e ∈ ds) :=
  sd_draw (Pb := fun b => b = [d]) hi (da_of (a_cons h a_nil) cl_dr) hn (fun b e => by subst e; exact ⟨⟨d, ds, rfl, hd, h0, hm⟩, rfl⟩) fun b e eb p => by
    subst eb
    obtain ⟨d', ds', e1, e2, e3⟩ := p
    cases e1
    rw [hd] at e2
    cases e2
    exact e3
/-- pick(draw, [..]), the items drawn too -/
theorem sd_pickE {n2 : Nat} {Pl : List PyData → Prop} {P : PyData → Prop} (hi : ρ[i]? = some (some (MP.v (.ref D)))) (h : EvD K (SDr D G) J (DrAt K D G n2) te ρ (fun d => ∃ ds, Pl ds ∧ d = .list ds)) (h0 : ∀ ds, Pl ds → ds ≠ [] ∧ ds.length ≤ 100000) (hn : n2 + 1 < 2 ^ 40) (hp : ∀ ds, Pl ds → ∀ e ∈ ds, P e) : EvD K (SDr D G) J (DrAt K D G (n2 + 1)) (tCall (spPick K) [] E (tCons (tVar i) (tCons te tNil))) ρ P :=
  sd_draw (Pb := fun b => ∃ ds, Pl ds ∧ b = [.list ds]) hi ((da_cons h da_nil).to (fun _ _ j => j) (fun b ⟨d, r, ⟨ds, pd, e1⟩, e2, e3⟩ => ⟨ds, pd, by rw [e3, e2, e1]⟩)) hn (fun b ⟨ds, pd, e⟩ => by subst e; exact ⟨⟨_, ds, rfl, rfl, h0 ds pd⟩, rfl⟩) fun b e ⟨ds, pd, eb⟩ p => by
    subst eb
    obtain ⟨d', ds', e1, e2, e3⟩ := p
    cases e1
    cases e2
    exact hp ds pd e e3
end
end LK
namespace K47
open PySem PySem.Spec PyProof.Rows L2 LK
section
variable {P : Program} {w : World} {h : Heap} {K : PySem.W.Frag} {mg : Str → Option Value} {base : Heap}
theorem ok_law_take (T : Tx w h K mg) : FOk P w K mg base CX0 2 "_law_take" ["_law_draw", "_law_many"] (spTake K) := by
  obtain ⟨fd, F⟩ := T.d_law_take
  refine ⟨T.g_law_take, F.kp, fd, okDr F sc_law_take (fun cdv A outer s H E hr => ⟨_, (pss_cons (ps_if (pt_cmpR op_eq (pe_dget (hu_of hr) (pv 0) pe_str (fun _ _ => rfl)) pe_int (nomark _)) (pss_one (ps_dput (hu_of hr) (pv 0) pe_str (pe_ifExp (pt_cmpR (kk_neD (K := K) rfl hr.units) (pe_dget (hu_of hr) (pv 0) pe_str (fun _ _ => rfl)) (pe_lst pa_nil) (nomark _)) (kk_bm (K := K) rfl PySem.F.plainAttrs_list PySem.F.slot_list_pop PySem.F.type_list_pop mt_popAt (pe_dget (hu_of hr) (pv 0) pe_str (fun _ _ => rfl)) (pa_cons pe_int pa_nil)) (LK.pe_fn (ok_law_mixed T) (hr.mono (by decide)) pass0 (pa_cons (pv 0) pa_nil))) rfl)) pss_nil)
    (pss_cons (ps_set (i := 2) sc_law_take.nd rfl (.inl rfl) (pe_op op_modN (pe_callTy call_int1 (by rfl) T.f_int boot_int (pa_cons (pe_dget (hu_of hr) (pv 0) pe_str (fun _ _ => rfl)) pa_nil)) (pv 1)))
    (pss_cons (ps_dput (hu_of hr) (pv 0) pe_str (pe_op op_fdivW (pe_dget (hu_of hr) (pv 0) pe_str (fun _ _ => rfl)) (pv 1)) rfl)
    (pss_one (ps_ret (pv 2)))))), ?_⟩), F.bindsN fun _ _ _ _ _ _ us hl => match us, hl with | [_, _], _ => rfl⟩
  rintro D G n b hn ⟨m, h0, hm, rfl⟩ _
  have rest : ∀ {Nx : Ro → JP} {u : TS}, St (SDr D G) (DrAt K D G (n + 1)) u [some (MP.v (.ref D)), some (MP.d K (.int (m : Nat))), none] Nx (fun v F H => DrAt K D G (n + 1) F H ∧ ∃ d, belowD [.int (m : Nat)] d ∧ Dat K F d v) → St (SDr D G) (DrAt K D G (n + 1)) u [some (MP.v (.ref D)), some (MP.d K (.int (m : Nat))), none] Nx (fun v F H => DrAt K D G (n + 1) F H ∧ ∃ d, belowD [.int (m : Nat)] d ∧ Dat K F d v) := fun h => h
  have tail : St (SDr D G) (DrAt K D G (n + 1)) (tSeq (tAsg (tOp (rI (fun _ j => j ≠ 0) fun i j => .int (i.fmod j)) (tCB (fun xs H Q => (∃ i, xs = [.int i] ∧ Q (.int i) H) ∨ ∃ k, xs = [.bl k] ∧ Q (.int (if k then 1 else 0)) H) (tCons (tDGet (tVar 0) (tC (.str "rest"))) tNil)) (tVar 1)) (gName 2)) (tSeq (sDPut (tVar 0) (tC (.str "rest")) (tOp (rI CDivW fun i j => .int (i / j)) (tDGet (tVar 0) (tC (.str "rest"))) (tVar 1))) (tRet (tVar 2)))) [some (MP.v (.ref D)), some (MP.d K (.int (m : Nat))), none] NoNx (fun v F H => DrAt K D G (n + 1) F H ∧ ∃ d, belowD [.int (m : Nat)] d ∧ Dat K F d v) := by
    refine q_asgE (P := fun d => ∃ k : Nat, k < m ∧ d = .int k) (sd_op (sd_int (dr_rest rfl) cl_dr) (sd_of (e_dv (d := .int (m : Nat))) cl_dr) cl_dr fun da db pa pb F H x y s rx ry Q q => ?_) fun d hd => ?_
    · obtain ⟨r, rfl⟩ := pa
      subst pb
      cases rx; cases ry
      have h1 := Int.fmod_nonneg_of_pos r (by omega : (0 : Int) < m)
      have h2 := Int.fmod_lt_of_pos r (by omega : (0 : Int) < m)
      exact ⟨_, _, rfl, rfl, by omega, q (.int (r.fmod (m : Nat))) _ F H (Fr.refl s) ⟨(r.fmod m).toNat, by omega, by rw [Int.toNat_of_nonneg h1]⟩ (.int _)⟩
    · obtain ⟨k, hk, rfl⟩ := hd
      refine q_rest (G := G) (n := n + 1) rfl (sd_op (dr_rest rfl) (sd_of (e_dv (d := .int (m : Nat))) cl_dr) cl_dr fun da db pa pb F H x y s rx ry Q q => ?_) (s_ret (e_dv (d := .int (k : Nat))) cl_dr fun v F H j r => ⟨j, _, ⟨m, k, rfl, hk, rfl⟩, r⟩)
      obtain ⟨r, rfl⟩ := pa
      subst pb
      cases rx; cases ry
      exact ⟨_, _, rfl, rfl, wide_div (b := 20) (by omega) (by omega) (by decide) (by decide), q _ _ F H (Fr.refl s) ⟨_, rfl⟩ (.int _)⟩
  refine q_ifS (G := fun _ => DrAt K D G n) ?_ (q_rest (G := G) (n := n + 1) rfl (sd_if (dr_ne rfl) ?_ ?_) tail) (q_next (St.pre tail fun F H j => j.le (by omega)))
  rotate_left
  · refine EvD.to (J1 := DrAt K D G n) (P := fun d => ∃ r : Int, d = .int r) (EvS.pre (dr_pop (n := n) rfl) fun F H j => ⟨j.1, j.2 rfl⟩) (fun F H j => j.le (by omega)) fun d h => h
  · refine EvD.to (J1 := DrAt K D G (n + 1)) (P := fun d => intD d) (EvS.pre (J := DrAt K D G n) (sd_draw0 (Ok := fun b => b = []) (Pz := fun _ d => intD d) (c := 1) (n := n) rfl hn rfl) fun F H j => j.1) (fun F H j => j) fun d h => h
  intro F H σ s j sl Q q
  exact dr_rest (S := SDr D G) rfl F H σ s j sl _ fun v F2 H2 l q0 => by
    obtain ⟨j2, d, ⟨r, rfl⟩, rv⟩ := q0
    cases rv
    exact ⟨rfl, _, rfl, q _ F2 H2 l j2⟩
theorem ok_law_pick (T : Tx w h K mg) : FOk P w K mg base CX0 3 "_law_pick" ["_law_draw", "_law_some"] (spPick K) := by
  obtain ⟨fd, F⟩ := T.d_law_pick
  refine ⟨T.g_law_pick, F.kp, fd, okDr F sc_law_pick (fun cdv A outer s H E hr => ⟨_, (pss_one (ps_ret (pe_ix (kk_ixP (K := K) rfl) (pv 1) (LK.pe_fn (ok_law_take T) (hr.mono (by decide)) pass0 (pa_cons (pv 0) (pa_cons (pe_callB (kk_lenP (K := K) rfl) (by rfl) T.f_len boot_len (pa_cons (pv 1) pa_nil)) pa_nil))) (fun _ _ => rfl)))), ?_⟩), F.bindsN fun _ _ _ _ _ _ us hl => match us, hl with | [_, _], _ => rfl⟩
  rintro D G n b hn ⟨d, ds, rfl, hd, h0, hm⟩ _
  have hs : (100000 : Nat) ≤ sizeLine := by decide
  refine s_retE (sd_ixP (ds := ds) (e_dv (d := d)) hd (by omega) cl_dr cl_dr (sd_take (m := ds.length) rfl (e_lenP (e_dv (d := d)) hd (by omega)) (List.length_pos_iff.mpr h0) hm hn)) fun v F H e j he r => ⟨j, e, ⟨d, ds, rfl, hd, he⟩, r⟩
end
end K47

set_option Elab.async false
set_option linter.all false
set_option maxRecDepth 100000
set_option maxHeartbeats 4000000
/-! PD47j: word. -/
namespace LK
open PySem PySem.Spec PyProof.Rows L2
theorem here_dr {K : PySem.W.Frag} {D G : Addr} {n : Nat} : Here (SDr D G) (DrAt K D G n) := fun F H j a hs => by
  obtain ⟨a', b, ne, gs, cs, r, t, C, h1, h2, h3, h4, h5⟩ := j
  rcases hs with rfl | rfl
  · exact ⟨_, h1⟩
  · exact ⟨_, h2⟩
theorem dep_dr {K : PySem.W.Frag} {D G : Addr} {n : Nat} : Dep (SDr D G) (DrAt K D G n) := fun F H F2 H2 l h j => by
  obtain ⟨a, b, ne, gs, cs, r, t, C, h1, h2, h3, h4, h5⟩ := j
  have x := h D _ (.inl rfl) h1
  have y := h G _ (.inr rfl) h2
  exact ⟨x.2 a, y.2 b, ne, gs, cs, r, t, C, x.1, y.1, h3.mono l, h4, h5⟩
/-- a word -/
def aWord (d : PyData) : Prop := ∃ x : Str, wordS x = true ∧ d = .str x
/-- a letter -/
def aSign (d : PyData) : Prop := ∃ c, c ∈ lettersS.cps.toList ∧ d = .str ⟨#[c]⟩
theorem signs_of : ∀ {ds : List PyData}, (∀ d ∈ ds, aSign d) → ∃ cs : List Nat, (∀ c ∈ cs, c ∈ lettersS.cps.toList) ∧ ds = (cs.map fun c => (⟨#[c]⟩ : Str)).map PyData.str ∧ cs.length = ds.length
  | [], _ => ⟨[], by simp, rfl, rfl⟩
  | d :: ds, h => by
    obtain ⟨c, hc, rfl⟩ := h d List.mem_cons_self
    obtain ⟨cs, h1, rfl, h2⟩ := signs_of fun e he => h e (List.mem_cons_of_mem _ he)
    exact ⟨c :: cs, fun x hx => by rcases List.mem_cons.mp hx with rfl | hx; exact hc; exact h1 x hx, rfl, by simp⟩
theorem len_letters : (signs lettersS).length = 26 := by
  unfold signs
  rw [List.length_map]
  decide +kernel
theorem sum_ones : ∀ cs : List Nat, (((cs.map fun c => (⟨#[c]⟩ : Str)).map (·.length)).sum) = cs.length
  | [] => rfl
  | c :: cs => by
    rw [List.map_cons, List.map_cons, List.sum_cons, sum_ones cs, List.length_cons]
    show 1 + _ = _
    omega
theorem join_ones (cs : List Nat) : Txt.join "" (cs.map fun c => (⟨#[c]⟩ : Str)) = ⟨cs.toArray⟩ := by
  have h := join_nil_signs ⟨cs.toArray⟩
  have e : PyProof.Rows.signs ⟨cs.toArray⟩ = cs.map fun c => (⟨#[c]⟩ : Str) := by
    unfold PyProof.Rows.signs
    simp
  rw [e] at h
  have h2 : (Txt.join "" (cs.map fun c => (⟨#[c]⟩ : Str)) == Str.join ⟨#[]⟩ (cs.map fun c => (⟨#[c]⟩ : Str))) = true := PyProof.Rows.join_closes rfl
  exact (eq_of_beq h2).trans h
end LK
namespace K47
open PySem PySem.Spec PyProof.Rows L2 LK
section
variable {P : Program} {w : World} {h : Heap} {K : PySem.W.Frag} {mg : Str → Option Value} {base : Heap}
abbrev spWord (K : PySem.W.Frag) : Sp := spDrw K 1 (fun b => b = []) (fun _ d => aWord d) 10
theorem ok_law_word (T : Tx w h K mg) : FOk P w K mg base CX0 4 "_law_word" ["_law_draw"] (spWord K) := by
  obtain ⟨fd, F⟩ := T.d_law_word
  refine ⟨T.g_law_word, F.kp, fd, okDr F sc_law_word (fun cdv A outer s H E hr => ⟨_, (pss_cons (ps_if (pt_cmpR op_eq (LK.pe_fn (ok_law_take T) (hr.mono (by decide)) pass0 (pa_cons (pv 0) (pa_cons pe_int pa_nil))) pe_int (nomark _)) (pss_one (ps_ret (LK.pe_fn (ok_law_pick T) (hr.mono (by decide)) pass0 (pa_cons (pv 0) (pa_cons (pe_lst (pa_cons pe_str (pa_cons pe_str (pa_cons pe_str (pa_cons pe_str (pa_cons pe_str (pa_cons pe_str (pa_cons pe_str (pa_cons pe_str (pa_cons pe_str (pa_cons pe_str (pa_cons pe_str pa_nil)))))))))))) pa_nil))))) pss_nil)
    (pss_cons (ps_set (i := 1) sc_law_word.nd rfl (.inr rfl) pe_str)
    (pss_cons (ps_set (i := 2) sc_law_word.nd rfl (.inl rfl) (LK.pe_fn (ok_law_pick T) (hr.mono (by decide)) pass0 (pa_cons (pv 0) (pa_cons (pe_lst (pa_cons pe_int (pa_cons pe_int (pa_cons pe_int (pa_cons pe_int (pa_cons pe_int pa_nil)))))) pa_nil))))
    (pss_one (ps_ret (kk_join (K := K) rfl pe_str (pe_lc (own := [("_law_lap", 3)]) rfl sc_law_word.nd (pi_range1 rfl T.f_range (pa_cons (pv 2) pa_nil)) (blkOk_by (N := ["_law_draw", "_law_letters", "_law_long", "_law_lap"]) (sc := defScope st_law_word) (by decide +kernel)) (fun _ _ _ _ _ => (pg_name (i := 3) sc_law_word.nd rfl (.inl rfl))) (fun _ _ _ _ _ => pts_nil) (fun _ _ _ _ _ => (LK.pe_fn (ok_law_pick T) (hr.mono (by decide)) pass0 (pa_cons (pv 0) (pa_cons (pv 1) pa_nil))))))))))), ?_⟩), F.bindsN fun _ _ _ _ _ _ us hl => match us, hl with | [_], _ => rfl⟩
  rintro D G n b hn rfl _
  refine q_ifS (G := fun _ => DrAt K D G (n + 1)) ?_ (q_ret (s_retE (J1 := DrAt K D G (n + 2)) (P := aWord) ?_ fun v F H d j p r => ⟨j.le (by omega), d, p, r⟩)) (q_next ?_)
  · intro F H σ s j sl Q q
    exact sd_take (m := 3) rfl e_int (by decide) (by decide) (by omega) F H σ s j sl _ fun v F2 H2 l q0 => by
      obtain ⟨j2, d, ⟨k, _, rfl⟩, rv⟩ := q0
      cases rv
      exact ⟨rfl, _, rfl, q _ F2 H2 l j2⟩
  · refine EvD.to (sd_pick (n := n + 1) (ds := (["there", "going", "gone", "unborn", "made", "marked", "none", "own", "a", "aa", "z"] : List Str).map PyData.str) rfl (e_lst (a_cons e_str (a_cons e_str (a_cons e_str (a_cons e_str (a_cons e_str (a_cons e_str (a_cons e_str (a_cons e_str (a_cons e_str (a_cons e_str (a_cons e_str a_nil))))))))))) (by decide)) rfl (by simp) (by simp) (by omega)) (fun F H j => j) fun d hd => ?_
    obtain ⟨x, hx, rfl⟩ := List.mem_map.mp hd
    refine ⟨x, ?_, rfl⟩
    clear hd
    revert x
    decide +kernel
  refine q_asgD (K := K) (d := .str lettersS) e_str cl_dr ?_
  refine q_asgE (K := K) (J1 := DrAt K D G (n + 2)) (P := fun d => ∃ k : Nat, 1 ≤ k ∧ k ≤ 8 ∧ d = .int k) ?_ fun d hd => ?_
  · refine EvD.to (sd_pick (n := n + 1) (ds := ([1, 1, 2, 3, 8] : List Nat).map fun k : Nat => PyData.int k) rfl (e_lst (a_cons e_int (a_cons e_int (a_cons e_int (a_cons e_int (a_cons e_int a_nil))))) (by decide)) rfl (by simp) (by simp) (by omega)) (fun F H j => j) fun d hd => ?_
    obtain ⟨k, hk, rfl⟩ := List.mem_map.mp hd
    refine ⟨k, ?_, ?_, rfl⟩ <;> (clear hd; revert k; decide)
  obtain ⟨k, hk1, hk8, rfl⟩ := hd
  refine s_retS (R := fun v F H => DrAt K D G (n + 10) F H ∧ ∃ d, aWord d ∧ Dat K F d v) fun F H σ s j sl Q q => ⟨⟨"", rfl⟩, ?_⟩
  refine es_lc (K := K) (S := SDr D G) (J := DrAt K D G (n + 2)) (ns := [3]) (up := fun d ρ => ρ.set 3 (some (MP.d K d))) (G := fun ds F H => ds = rngD 0 k ∧ DrAt K D G (n + 2) F H) here_dr (SrcS.of (src_rng1 (n := (k : Nat)) (a_cons (e_dv (d := .int (k : Nat))) a_nil) (by omega) (by omega)) cl_dr) (fun d => gt_name) (fun _ h => h)
    (fun ds i acc F H => ds = rngD 0 k ∧ acc.length = i ∧ (∀ d ∈ acc, aSign d) ∧ i ≤ k ∧ DrAt K D G (n + 2 + i) F H) (fun ds F H g => ⟨g.1, rfl, by simp, Nat.zero_le _, g.2⟩) (fun ds i acc F H F2 H2 l h g => ⟨g.1, g.2.1, g.2.2.1, g.2.2.2.1, dep_dr F H F2 H2 l h g.2.2.2.2⟩) (fun ds i acc F H g => ?_)
    (fun ds i acc b F H => b = true ∧ ds = rngD 0 k ∧ acc.length = i ∧ (∀ d ∈ acc, aSign d) ∧ DrAt K D G (n + 2 + i) F H) (fun ds i d acc hd F H σ s j sl Q q => b_yes F H σ s sl Q fun F2 H2 l => q true F2 H2 l.up ⟨rfl, j.1, j.2.1, j.2.2.1, cl_dr F H F2 H2 l j.2.2.2.2⟩) (fun ds i acc F H g => by cases g.1) (fun ds i d acc hd F H σ s j sl Q q => ?_) F H σ s j sl _ fun v F2 H2 l q0 => ?_
  · have h8 : (8 : Nat) < sizeLine := by decide
    have := g.2.1
    have := g.2.2.2.1
    omega
  · obtain ⟨_, rfl, hl, hs, jd⟩ := j
    have hik : i < k := by
      have := (List.getElem?_eq_some_iff.mp hd).1
      rw [rngD_len] at this
      exact this
    exact sd_pick (n := n + 2 + i) (d := .str lettersS) (ds := signs lettersS) rfl (e_dv (d := .str lettersS)) rfl (List.ne_nil_of_length_pos (by rw [len_letters]; decide)) (by rw [len_letters]; decide) (by omega) F H σ s jd sl _ fun v F2 H2 l q0 => by
      obtain ⟨j2, d, hd2, rv⟩ := q0
      obtain ⟨c, hc, rfl⟩ := List.mem_map.mp hd2
      refine q v F2 H2 l ⟨_, rv, rfl, by rw [List.length_append, hl]; rfl, fun e he => ?_, by omega, j2⟩
      rcases List.mem_append.mp he with h | h
      · exact hs e h
      · rw [List.mem_singleton.mp h]; exact ⟨c, hc, rfl⟩
  · obtain ⟨ds, acc, rv, rfl, hl, hs, _, jd⟩ := q0
    obtain ⟨cs, h1, rfl, h2⟩ := signs_of hs
    rw [rngD_len] at hl jd
    rw [hl] at h2
    cases rv with
    | lst hs' ha =>
      rw [ha.strs] at hs'
      refine ⟨"", _, _, rfl, rfl, .inl (sql_sub l.s hs'), ?_, ?_⟩
      · rw [sum_ones, List.length_map]
        show cs.length + cs.length * 0 ≤ 16777216
        omega
      · refine q _ F2 H2 l ⟨jd.le (by omega), .str ⟨cs.toArray⟩, ⟨_, ?_, rfl⟩, by rw [LK.join_ones]; exact .str _⟩
        unfold wordS
        have e1 : (⟨cs.toArray⟩ : Str).length = cs.length := by show cs.toArray.size = _; simp
        rw [e1, decide_eq_true (by omega : (1 : Int) ≤ cs.length), decide_eq_true (by omega : (cs.length : Int) ≤ 8), Bool.true_and, Bool.true_and, List.all_eq_true]
        intro c hc
        exact decide_eq_true (h1 c (by simpa using hc))
end
end K47

set_option Elab.async false
set_option linter.all false
set_option maxRecDepth 100000
set_option maxHeartbeats 4000000
/-! PD47k: words. -/
namespace LK
open PySem PySem.Spec PyProof.Rows L2
def sparesS : List Str := ["qa", "qb", "qc", "qd", "qe", "qf"]
def strD : PyData → Str
  | .str x => x
  | _ => ""
/-- the first spare that is not there -/
theorem spare_first {xs : List Str} {x : Str} (hx : wordS x = true) (hl : xs.length ≤ 2) : ∃ y rest, ((x :: sparesS).filter fun z => !decide (z ∈ xs)) = y :: rest ∧ wordS y = true ∧ ¬ y ∈ xs := by
  cases e : (x :: sparesS).filter fun z => !decide (z ∈ xs) with
  | nil =>
    exfalso
    rw [List.filter_eq_nil_iff] at e
    have hsub : ∀ z ∈ sparesS, z ∈ xs := fun z hz => by
      have := e z (List.mem_cons_of_mem _ hz)
      simpa using this
    have hnd : sparesS.Nodup := by decide +kernel
    have := List.Nodup.length_le_of_subset hnd hsub
    have : sparesS.length = 6 := rfl
    omega
  | cons y rest =>
    have hm : y ∈ (x :: sparesS).filter fun z => !decide (z ∈ xs) := by rw [e]; exact List.mem_cons_self
    obtain ⟨h1, h2⟩ := List.mem_filter.mp hm
    refine ⟨y, rest, rfl, ?_, by simpa using h2⟩
    have hs : ∀ z ∈ sparesS, wordS z = true := by decide +kernel
    rcases List.mem_cons.mp h1 with rfl | h
    · exact hx
    · exact hs y h
end LK
namespace K47
open PySem PySem.Spec PyProof.Rows L2 LK
section
variable {P : Program} {w : World} {h : Heap} {K : PySem.W.Frag} {mg : Str → Option Value} {base : Heap}
abbrev spWords (K : PySem.W.Frag) : Sp := spDrw K 2 (fun b => b = [.int 3]) (fun _ d => ∃ xs : List Str, wantsS xs ∧ xs.length = 3 ∧ d = .list (xs.map PyData.str)) 30
theorem ok_law_words (T : Tx w h K mg) : FOk P w K mg base CX0 5 "_law_words" ["_law_draw", "_law_many"] (spWords K) := by
  obtain ⟨fd, F⟩ := T.d_law_words
  refine ⟨T.g_law_words, F.kp, fd, okDr F sc_law_words (fun cdv A outer s H E hr => ⟨_, (pss_cons (ps_set (i := 2) sc_law_words.nd rfl (.inr rfl) (pe_lst pa_nil))
    (pss_cons (ps_for PassesOwn.never rfl (pi_range1 rfl T.f_range (pa_cons (pv 1) pa_nil)) (pg_name (i := 3) sc_law_words.nd rfl (.inl rfl)) (pss_cons (ps_set (i := 4) sc_law_words.nd rfl (.inl rfl) (LK.pe_fn (ok_law_word T) (hr.mono (by decide)) pass0 (pa_cons (pv 0) pa_nil)))
    (pss_one (ps_expr (kk_bm (K := K) rfl PySem.F.plainAttrs_list PySem.F.slot_list_append PySem.F.type_list_append mt_append (pv 2) (pa_cons (pe_ix (kk_ixL (K := K) rfl) (pe_lc (own := [("_law_spare", 5)]) rfl sc_law_words.nd (kk_pi_list (K := K) rfl (pe_lst (pa_cons (pv 4) (pa_cons pe_str (pa_cons pe_str (pa_cons pe_str (pa_cons pe_str (pa_cons pe_str (pa_cons pe_str pa_nil))))))))) (blkOk_by (N := ["_law_draw", "_law_many", "_law_found", "_law_turn", "_law_word_here", "_law_spare"]) (sc := defScope st_law_words) (by decide +kernel)) (fun _ _ _ _ _ => (pg_name (i := 5) sc_law_words.nd rfl (.inl rfl))) (fun _ _ _ _ _ => (pts_one (pt_cmpR (kk_notIn_seq (K := K) rfl) (pv 5) (pv 2) rfl))) (fun _ _ _ _ _ => (pv 5))) pe_int (fun _ _ => rfl)) pa_nil))))))
    (pss_one (ps_ret (pv 2))))), ?_⟩), F.bindsN fun _ _ _ _ _ _ us hl => match us, hl with | [_, _], _ => rfl⟩
  rintro D G n b hn rfl _
  refine q_newL (K := K) (R' := fun L v F H => DrAt K D G (n + 30) F H ∧ v = .ref L ∧ G ≠ L ∧ ∃ xs : List Str, wantsS xs ∧ xs.length = 3 ∧ LsAt K L (xs.map PyData.str) F H) cl_dr (fun L hL => ?_) fun L v F H s q0 => ?_
  · have nS : ¬ SDr D G L := fun z => by
      obtain ⟨F, H, j, e⟩ := hL
      obtain ⟨o, q⟩ := here_dr F H j L z
      rw [e] at q; cases q
    refine q_for (K := K) (ns := [3]) (up := fun d ρ => ρ.set 3 (some (MP.d K d))) (ρL := [some (MP.v (.ref D)), some (MP.d K (.int 3)), some (MP.v (.ref L)), none, none, none]) (src_rng1 (a_cons (e_dv (d := .int 3)) a_nil)) (cl_dr.and cl_lsAt) (fun d _ => gt_name) (fun i F H => DrAt K D G (n + 10 * i) F H ∧ ∃ xs : List Str, (wantsS xs ∧ xs.length = i) ∧ LsAt K L (xs.map PyData.str) F H) (WeakL.refl _) (fun F H j => ⟨j.1, [], ⟨⟨.nil, by simp, by simp⟩, rfl⟩, j.2⟩) (fun i F H F2 H2 l ⟨a, xs, b, c⟩ => ⟨cl_dr F H F2 H2 l a, xs, b, cl_lsAt F H F2 H2 l c⟩) (fun i d hd => ?_) ?_
    · have hi : i < 3 := by
        have := (List.getElem?_eq_some_iff.mp hd).1
        rw [rngD_len] at this
        exact this
      refine St.ex (G := fun (xs : List Str) F H => (wantsS xs ∧ xs.length = i) ∧ (DrAt K D G (n + 10 * i) F H ∧ LsAt K L (xs.map PyData.str) F H)) (fun xs => ?_) fun F H ⟨a, xs, b, c⟩ => ⟨xs, b, a, c⟩
      refine St.get (P := wantsS xs ∧ xs.length = i) (fun ⟨hw, hxl⟩ => ?_) fun F H j => j.1
      refine St.pre (J := fun F H => DrAt K D G (n + 10 * i) F H ∧ LsAt K L (xs.map PyData.str) F H) ?_ fun F H j => j.2
      refine q_asgE (K := K) (J1 := fun F H => DrAt K D G (n + 10 * i + 10) F H ∧ LsAt K L (xs.map PyData.str) F H) (P := aWord) (ev_side (sd_draw0 (Ok := fun b => b = []) (Pz := fun _ d => aWord d) (c := 10) (n := n + 10 * i) rfl (by omega) rfl) nS) fun d hd => ?_
      obtain ⟨x, hx, rfl⟩ := hd
      have cl : Cl (fun F H => DrAt K D G (n + 10 * i + 10) F H ∧ LsAt K L (xs.map PyData.str) F H) := cl_dr.and cl_lsAt
      have dep : Dep (SOr (SDr D G) L) (fun F H => DrAt K D G (n + 10 * i + 10) F H ∧ LsAt K L (xs.map PyData.str) F H) := (dep_dr.up fun a z => .inl z).and dep_ls
      have here : Here (SOr (SDr D G) L) (fun F H => DrAt K D G (n + 10 * i + 10) F H ∧ LsAt K L (xs.map PyData.str) F H) := fun F H j a z => by
        rcases z with z | rfl
        · exact here_dr F H j.1 a z
        · obtain ⟨vs, _, b, _⟩ := j.2
          exact ⟨_, b⟩
      refine s_app (K := K) (J1 := fun F H => DrAt K D G (n + 10 * i + 10) F H ∧ LsAt K L (xs.map PyData.str) F H) (acc := xs.map PyData.str) (P := fun d => ∃ y : Str, (wordS y = true ∧ ¬ y ∈ xs) ∧ d = .str y) rfl ?_ (fun F H j => ?_) (fun F H j => j.2) ?_ (fun d F H F2 H2 pd l keep j ls => ?_)
      · refine sd_op (K := K) (J1 := fun F H => DrAt K D G (n + 10 * i + 10) F H ∧ LsAt K L (xs.map PyData.str) F H) (P := fun d => d = .list ((((x :: sparesS).filter fun z => !decide (z ∈ xs)).map PyData.str))) ?_ (sd_of e_int cl) cl fun da db pa pb F H u y s rx ry Q q => ?_
        refine EvS.imp (es_lc (K := K) (tt := tTest (tOp (rIn K true) (tVar 5) (tVar 2))) (te := tVar 5) (ns := [5]) (vs := [5]) (up := fun d ρ => ρ.set 5 (some (MP.d K d))) (G := fun ds F H => ds = (x :: sparesS).map PyData.str ∧ DrAt K D G (n + 10 * i + 10) F H ∧ LsAt K L (xs.map PyData.str) F H) here
          (SrcS.of (src_list (ρ := [some (MP.v (.ref D)), some (MP.d K (.int 3)), some (MP.v (.ref L)), some (MP.d K d), some (MP.d K (.str x)), none]) (e_lst (a_cons (e_dv (i := 4) (d := .str x)) (a_cons e_str (a_cons e_str (a_cons e_str (a_cons e_str (a_cons e_str (a_cons e_str a_nil))))))) (by show 7 ≤ sizeLine; decide))) cl) (fun d => gt_name (i := 5)) (fun _ h => h)
          (fun ds k acc F H => ds = (x :: sparesS).map PyData.str ∧ acc = (((x :: sparesS).take k).filter fun z => !decide (z ∈ xs)).map PyData.str ∧ DrAt K D G (n + 10 * i + 10) F H ∧ LsAt K L (xs.map PyData.str) F H) (fun ds F H g => ⟨g.1, by simp, g.2⟩) (fun ds k acc F H F2 H2 l h g => ⟨g.1, g.2.1, dep F H F2 H2 l h g.2.2⟩) (fun ds k acc F H g => by
            rw [g.2.1, List.length_map]
            refine Nat.lt_of_le_of_lt (List.length_filter_le _ _) (Nat.lt_of_le_of_lt (List.length_take_le' _ _) ?_)
            show 7 < sizeLine
            decide)
          (fun ds k acc b F H => ds = (x :: sparesS).map PyData.str ∧ acc = (((x :: sparesS).take k).filter fun z => !decide (z ∈ xs)).map PyData.str ∧ (DrAt K D G (n + 10 * i + 10) F H ∧ LsAt K L (xs.map PyData.str) F H) ∧ ∃ z, (x :: sparesS)[k]? = some z ∧ b = !decide (z ∈ xs)) (fun ds k d acc hd F H σ s j sl Q q => ?_) (fun ds k acc F H ⟨g1, g2, g3, z, g4, g5⟩ => ⟨g1, by rw [List.take_succ, g4, List.filter_append, List.map_append, ← g2]; simp [← g5], g3⟩) (fun ds k d acc hd F H σ s j sl Q q => ?_)) fun v F H ⟨ds, acc, rv, g1, g2, g3⟩ => ⟨g3, _, rfl, ?_⟩
        · obtain ⟨g1, g2, g3⟩ := j
          subst g1
          rw [List.getElem?_map] at hd
          obtain ⟨z, hz, rfl⟩ := Option.map_eq_some_iff.mp hd
          exact eb_inL (K := K) (neg := true) (x := z) (xs := xs) (J := fun F H => DrAt K D G (n + 10 * i + 10) F H ∧ LsAt K L (xs.map PyData.str) F H) rfl rfl (fun F H j => j.2) F H σ s g3 sl Q fun b F2 H2 l ⟨j2, e⟩ => q b F2 H2 l ⟨rfl, g2, j2, z, hz, e⟩
        · obtain ⟨g1, g2, g3, z, g4, g5⟩ := j
          subst g1
          rw [List.getElem?_map, g4] at hd
          cases hd
          exact e_dv (i := 5) (d := .str z) rfl F H σ s sl Q fun v F2 H2 l r => q v F2 H2 l.up ⟨.str z, r, rfl, by rw [List.take_succ, g4, List.filter_append, List.map_append, ← g2]; simp [← g5], cl F H F2 H2 l g3⟩
        · subst g1
          rw [g2, List.length_map, List.take_length] at rv
          exact rv
        · obtain ⟨y0, rest, he, hy, hn'⟩ := spare_first (xs := xs) hx (by omega)
          rw [he] at pa
          subst pa
          subst pb
          cases ry
          cases rx with
          | lst hs ha =>
            cases ha with
            | cons h1 h2 => exact ⟨_, _, _, _, rfl, rfl, sql_sub s hs, atI_nat (j := 0) rfl, q _ _ F H (Fr.refl s) ⟨y0, ⟨hy, hn'⟩, rfl⟩ h1⟩
      · obtain ⟨vs, _, b, _⟩ := j.2
        exact ⟨vs, SqL.of b⟩
      · rw [List.length_map]; exact sz_lt (by omega)
      · obtain ⟨y, ⟨hy, hn'⟩, rfl⟩ := pd
        refine ⟨(by repeat (first | exact WeakL.nil | refine WeakL.same ?_ | refine WeakL.drop ?_)), ?_, xs ++ [y], ⟨⟨?_, fun z hz => ?_, by rw [List.length_append, hxl]; show i + 1 ≤ 3; omega⟩, by rw [List.length_append, hxl]; rfl⟩, by rw [List.map_append]; exact ls⟩
        · obtain ⟨a1, a2, ne, gs, cs, r, t, C, h1, h2, h3, h4, h5⟩ := j.1
          exact ⟨l.n D _ h1 a1, l.n G _ h2 a2, ne, gs, cs, r, t, C, keep D _ (fun z => nS (.inl z.symm)) h1, keep G _ (fun z => nS (.inr z.symm)) h2, h3.mono l.f, h4, by omega⟩
        · refine List.nodup_append.mpr ⟨hw.1, by simp, fun a ha b hb e => ?_⟩
          rw [List.mem_singleton.mp hb] at e
          rw [e] at ha
          exact hn' ha
        · rcases List.mem_append.mp hz with h | h
          · exact hw.2.1 z h
          · rw [List.mem_singleton.mp h]; exact hy
    · have hlen : (rngD 0 (3 : Int).toNat).length = 3 := rngD_len _ _
      rw [hlen]
      exact s_ret (e_var (m := MP.v (.ref L)) rfl) (fun F H F2 H2 l ⟨a, xs, b, c⟩ => ⟨cl_dr F H F2 H2 l a, xs, b, cl_lsAt F H F2 H2 l c⟩) fun v F H ⟨a, xs, b, c⟩ r => ⟨a.le (by omega), r, fun z => nS (.inr z.symm), xs, b.1, b.2, c⟩
  · obtain ⟨a, rfl, hG, xs, hw, hl, vs, b, c, e⟩ := q0
    obtain ⟨a1, a2, ne, gs, cs, r, t, C, h1, h2, h3, h4, h5⟩ := a
    have hD : D ≠ L := fun z => by
      subst z
      rw [c] at h1; cases h1
    exact ⟨.lst vs, c, (fun _ z => nomatch z), b, ⟨by rw [upd_ne hD]; exact a1, by rw [upd_ne hG]; exact a2, ne, gs, cs, r, t, C, h1, h2, h3.mono (Sub.new b), h4, h5⟩, _, ⟨xs, hw, hl, rfl⟩, .lst (SqL.of upd_same) (e.mono (Sub.new b))⟩
end
end K47

set_option Elab.async false
set_option linter.all false
set_option maxRecDepth 100000
set_option maxHeartbeats 4000000
/-! PD47l: the draw state is made. -/
namespace LK
open PySem PySem.Spec PyProof.Rows L2
abbrev spBegun (K : PySem.W.Frag) : Sp := fun vs H Q _ => ∃ (ns : List Int) (a : V) (F : Hp), vs = [a] ∧ Sub F H ∧ Dat K F (.list (ns.map PyData.int)) a ∧ ns.length ≤ 100000 ∧ ∀ D G F2 H2, Le F H F2 H2 → H D = none → H G = none → DrAt K D G 0 F2 H2 → Q (.ref D) H2
theorem st_app {S : Addr → Prop} {J : JP} {t : TS} {ρ : Ro} {R : V → JP} {F H : Hp} {σ : L2.St} {Q : VK} {nx : L2.St → Hp → Prop} (k : St S J t ρ NoNx R) (s : Sub F H) (j : J F H) (sl : SlOk F σ ρ) (hr : ∀ v F2 H2, Fr S F H F2 H2 → R v F2 H2 → Q v H2) : t { nx := nx, rt := Q } σ H :=
  k F H σ s j sl _ hr fun _ _ _ _ _ z => z.elim
theorem es_disp {K : PySem.W.Frag} {ρ : Ro} {te tc : TE} {gs cs : List Int} {F0 H0 : Hp} (h : EvNew K te ρ (gs.map PyData.int)) (hc : Ev K tc ρ (.list (cs.map PyData.int))) (hv : ∀ F v, Dat K F (.list (cs.map PyData.int)) v → ∃ C, v = .ref C) (hz : cs.length ≤ 100000) :
    EvS S0 (JX F0 H0) (tDisp [(tC (.str "great"), te), (tC (.str "cells"), tc), (tC (.str "rest"), tC (.int 0)), (tC (.str "turn"), tC (.int 0))]) ρ (fun v F H => ∃ D G, v = .ref D ∧ H0 D = none ∧ H0 G = none ∧ DrAt K D G 0 F H) := fun F H σ s j sl Q q => fun p hp => by
  have nF : F p = none := s.none hp
  have l0 : Le F H F (upd H p (.dK [])) := Le.newM s hp
  refine h F _ σ l0.s sl _ fun L F2 H2 l1 hL hls => ?_
  refine hc F2 H2 σ l1.s (sl.mono l1.f) _ fun v F3 H3 l2 rv => ?_
  obtain ⟨C, rfl⟩ := hv F3 v rv
  obtain ⟨xs, a, b, c⟩ := hls
  have hpp : (upd H p (.dK [])) p = some (.dK []) := upd_same
  have lp := l1.trans l2
  have p3 := lp.h p _ hpp (fun z => z)
  have n3 := lp.n p _ hpp nF
  have b3 := l2.h L _ b (fun z => z)
  have a3 := l2.n L _ b a
  have c3 := c.mono l2.f
  have ne : p ≠ L := fun z => by rw [← z] at hL; rw [hpp] at hL; cases hL
  have fresh : ∀ {x : Addr}, H x = none → H0 x = none := fun {x} e => by
    cases q : H0 x with
    | none => rfl
    | some o =>
      have := j.sub x o q
      rw [e] at this; cases this
  have hLH : H L = none := by rw [upd_ne (Ne.symm ne)] at hL; exact hL
  refine ⟨p3, [(.inr "great", .ref L), (.inr "cells", .ref C), (.inr "rest", .int 0), (.inr "turn", .int 0)], rfl, by show 4 ≤ 15; decide, ?_⟩
  refine q (.ref p) F3 _ ⟨(l0.trans lp).f, lp.s.mut n3, fun x o e _ => ?_, fun x o e f => (l0.trans lp).n x o e f, fun x o e => ?_, fun z => (l0.trans lp).t z⟩ ⟨p, L, rfl, fresh hp, fresh hLH, n3, a3, ne, gs, cs, 0, 0, C, upd_same, ?_, rv, hz, Nat.le_refl _⟩
  · rw [upd_ne (ne_of_none e hp)]; exact (l0.trans lp).h x o e (fun z => z)
  · rw [upd_ne (ne_of_none e hp)]; exact (l0.trans lp).g x o e
  · rw [upd_ne (Ne.symm ne)]
    rw [c3.ints] at b3
    exact b3
end LK
namespace K47
open PySem PySem.Spec PyProof.Rows L2 LK
section
variable {P : Program} {w : World} {h : Heap} {K : PySem.W.Frag} {mg : Str → Option Value} {base : Heap}
theorem ok_law_begun (T : Tx w h K mg) : FOk P w K mg base CX0 1 "_law_begun" ["_law_script"] (spBegun K) := by
  obtain ⟨fd, F⟩ := T.d_law_begun
  refine ⟨T.g_law_begun, F.kp, fd, F.ok sc_law_begun (fun vs H Q E h => by obtain ⟨ns, a, F, rfl, _⟩ := h; rfl) (fun cdv A outer s H vs Q E hr h => ⟨_, PSs.nox (pss_cons (ps_setLc (i := 1) (own := [("_law_cell", 2)]) rfl sc_law_begun.nd rfl rfl (sw_true rfl rfl rfl (by decide +kernel)) (kk_pi_list (K := K) rfl (pv 0)) (blkOk_by (N := ["_law_script", "_law_cells", "_law_cell"]) (sc := defScope st_law_begun) (by decide +kernel)) (fun _ _ _ _ _ => (pg_name (i := 2) sc_law_begun.nd rfl (.inl rfl))) (fun _ _ _ _ _ => pts_nil) (fun _ _ _ _ _ => (pe_callB call_abs (by rfl) T.f_abs boot_abs (pa_cons (pv 2) pa_nil))))
    (pss_one (ps_ret (pe_disp (pps_cons pe_str (pe_lc (own := [("_law_cell", 2)]) rfl sc_law_begun.nd (kk_pi_list (K := K) rfl (pv 1)) (blkOk_by (N := ["_law_script", "_law_cells", "_law_cell"]) (sc := defScope st_law_begun) (by decide +kernel)) (fun _ _ _ _ _ => (pg_name (i := 2) sc_law_begun.nd rfl (.inl rfl))) (fun _ _ _ _ _ => (pts_one (pt_cmpR op_ge (pv 2) (pe_op op_pow pe_int pe_int) (nomark _)))) (fun _ _ _ _ _ => (pe_op op_sub (pv 2) (pe_op op_pow pe_int pe_int)))) (pps_cons pe_str (pv 1) (pps_cons pe_str pe_int (pps_cons pe_str pe_int pps_nil)))) rfl rfl (by simp) (by decide))))), ?_⟩), F.bindsN fun _ _ _ _ _ _ us hl => match us, hl with | [_], _ => rfl⟩
  obtain ⟨ns, a, F0, rfl, s0, d0, hz, q⟩ := h
  have hz2 : ns.length < sizeLine := sz_lt hz
  refine st_app (ρ := st0 nm_law_begun [MP.d K (.list (ns.map PyData.int))]) (S := S0) (J := JX F0 H) (R := fun v F' H' => ∃ D G, v = .ref D ∧ H D = none ∧ H G = none ∧ DrAt K D G 0 F' H') ?_ s0 (Fr.refl s0) (slok_data (.cons d0 .nil)) (fun v F2 H2 l ⟨D, G, e, h1, h2, h3⟩ => by subst e; exact q D G F2 H2 l h1 h2 h3)
  refine q_asgD (K := K) (d := .list ((ns.map fun i : Int => if i < 0 then -i else i).map PyData.int)) ?_ cl_X (s_retS (es_disp (K := K) (cs := ns.map fun i : Int => if i < 0 then -i else i) (gs := ((ns.map fun i : Int => if i < 0 then -i else i).filter fun i => decide ((10 : Int) ^ 18 ≤ i)).map fun i => i - 10 ^ 18) ?_ (e_dv (i := 1)) (fun F v r => by cases r; exact ⟨_, rfl⟩) (by rw [List.length_map]; exact hz)))
  · refine Ev.is (e_lcm (ns := [2]) (up := fun d ρ => ρ.set 2 (some (MP.d K d))) (fun d => .int (if intOf d < 0 then -(intOf d) else intOf d)) (src_list (e_dv (i := 0) (d := .list (ns.map PyData.int)))) (fun d => gt_name) (fun _ h => h) (by rw [List.length_map]; exact hz2) (fun d hd => ?_)) (by rw [List.map_map, List.map_map]; rfl)
    obtain ⟨i, _, rfl⟩ := List.mem_map.mp hd
    exact e_cb1 (d := .int i) (e_dv (i := 2) (d := .int i)) fun F H v s r Q q => by cases r; exact ⟨i, rfl, q _ F H (Fr.refl s) (.int _)⟩
  · have e : ∀ cs : List Int, ((cs.filter fun i => decide ((10 : Int) ^ 18 ≤ i)).map fun i => i - 10 ^ 18).map PyData.int = (((cs.map PyData.int).filter fun d => decide ((10 : Int) ^ 18 ≤ intOf d)).map fun d => .int (intOf d - 10 ^ 18)) := fun cs => by
      rw [List.map_map, List.filter_map, List.map_map]
      rfl
    rw [e]
    refine n_lc (ns := [2]) (up := fun d ρ => ρ.set 2 (some (MP.d K d))) (fun d => decide ((10 : Int) ^ 18 ≤ intOf d)) (fun d => .int (intOf d - 10 ^ 18)) (src_list (e_dv (i := 1) (d := .list ((ns.map fun i : Int => if i < 0 then -i else i).map PyData.int)))) (fun d => gt_name) (fun _ h => h) (by rw [List.length_map, List.length_map]; exact hz2) (fun d hd => ?_) (fun d hd _ => ?_)
    · obtain ⟨i, _, rfl⟩ := List.mem_map.mp hd
      exact b_test (e_B0 (e_dv (i := 2) (d := .int i)) (e_I (C := CPow) (g := fun i j => i ^ j.toNat) e_int e_int ⟨by decide, by decide, by decide⟩))
    · obtain ⟨i, _, rfl⟩ := List.mem_map.mp hd
      exact e_I0 (g := fun i j => i - j) (e_dv (i := 2) (d := .int i)) (e_I (C := CPow) (g := fun i j => i ^ j.toNat) e_int e_int ⟨by decide, by decide, by decide⟩)
end
end K47

set_option Elab.async false
set_option linter.all false
set_option maxRecDepth 100000
set_option maxHeartbeats 4000000
/-! PD47m: a rule is drawn. -/
namespace LK
open PySem PySem.Spec PyProof.Rows L2
section
variable {K : PySem.W.Frag} {D G : Addr} {n : Nat} {ρ : Ro} {i : Nat} {te : TE} {wi : TI} {g : TG} {ds : List PyData} {ns vs : List Nat} {up : PyData → Ro → Ro} {E : XK}
/-- take(draw, m) == 0 -/
theorem sdb_take {m : Nat} (hi : ρ[i]? = some (some (MP.v (.ref D)))) (h0 : 0 < m) (hm : m ≤ 100000) (hn : n + 1 < 2 ^ 40) : EvSB (SDr D G) (DrAt K D G n) (tTest (tOp rEq (tCall (spTake K) [] E (tCons (tVar i) (tCons (tC (.int (m : Nat))) tNil))) (tC (.int 0)))) ρ (fun _ F H => DrAt K D G (n + 1) F H) := fun F H σ s j sl Q q =>
  sd_take (m := m) hi e_int h0 hm hn F H σ s j sl _ fun v F2 H2 l q0 => by
    obtain ⟨j2, d, ⟨k, _, rfl⟩, rv⟩ := q0
    cases rv
    exact ⟨rfl, _, rfl, q _ F2 H2 l j2⟩
/-- [e for e in ds if take(draw, m) == 0] -/
theorem sd_lcTake {m : Nat} (hs : Src K wi ρ ds) (hg : ∀ d, GtD K g d ns (up d)) (hv : ∀ k ∈ ns, k ∈ vs) (hz : ds.length < sizeLine) (hn : n + ds.length < 2 ^ 40) (hi : ∀ d, (up d (wipeR ρ vs))[i]? = some (some (MP.v (.ref D)))) (h0 : 0 < m) (hm : m ≤ 100000) (he : ∀ d, Ev K te (up d (wipeR ρ vs)) d) :
    EvD K (SDr D G) (DrAt K D G n) (DrAt K D G (n + ds.length)) (tLc wi g (tTest (tOp rEq (tCall (spTake K) [] E (tCons (tVar i) (tCons (tC (.int (m : Nat))) tNil))) (tC (.int 0)))) te vs) ρ (fun d => ∃ acc, acc.Sublist ds ∧ d = .list acc) :=
  EvS.imp (es_lc (K := K) here_dr (SrcS.of hs cl_dr) hg hv (fun ds' k acc F H => ds' = ds ∧ acc.Sublist (ds.take k) ∧ DrAt K D G (n + k) F H) (fun ds' F H g => ⟨g.1, by simp, g.2⟩) (fun ds' k acc F H F2 H2 l h g => ⟨g.1, g.2.1, dep_dr F H F2 H2 l h g.2.2⟩)
    (fun ds' k acc F H g => Nat.lt_of_le_of_lt (Nat.le_trans g.2.1.length_le (by rw [List.length_take]; exact Nat.min_le_right _ _)) hz)
    (fun ds' k acc b F H => ds' = ds ∧ acc.Sublist (ds.take k) ∧ DrAt K D G (n + k + 1) F H) (fun ds' k d acc hd F H σ s j sl Q q => by
      obtain ⟨e, h1, h2⟩ := j
      subst e
      have hk := (List.getElem?_eq_some_iff.mp hd).1
      exact sdb_take (hi d) h0 hm (by omega) F H σ s h2 sl _ fun b F2 H2 l j2 => q b F2 H2 l ⟨rfl, h1, j2⟩)
    (fun ds' k acc F H g => ⟨g.1, g.2.1.trans (List.take_sublist_take_left (Nat.le_succ k)), g.2.2⟩) (fun ds' k d acc hd F H σ s j sl Q q => by
      obtain ⟨e, h1, h2⟩ := j
      subst e
      exact he d F H σ s sl Q fun v F2 H2 l r => q v F2 H2 l.up ⟨d, r, rfl, by rw [List.take_succ, hd]; exact h1.append (List.Sublist.refl _), cl_dr F H F2 H2 l h2⟩))
    fun v F H ⟨ds', acc, r, e, h1, h2⟩ => by
      subst e
      rw [List.take_length] at h1
      exact ⟨h2, _, ⟨acc, h1, rfl⟩, r⟩
/-- e[:take], e drawn too -/
theorem sd_slTo {K : PySem.W.Frag} {S : Addr → Prop} {J J1 J2 : JP} {ρ : Ro} {te tb : TE} {Pl : List PyData → Prop} {Pk : Nat → Prop} (h : EvD K S J J1 te ρ (fun d => ∃ acc, Pl acc ∧ d = .list acc)) (hb : EvD K S J1 J2 tb ρ (fun d => ∃ k : Nat, Pk k ∧ d = .int k)) (c : Cl J2) : EvD K S J J2 (tSl (rSlL K) te tNoPart (tPart tb)) ρ (fun d => ∃ acc k, Pl acc ∧ Pk k ∧ d = .list (acc.take k)) := fun F H σ s j sl Q q =>
  h F H σ s j sl _ fun v F1 H1 l1 q0 => by
    obtain ⟨j1, d, ⟨acc, pa, rfl⟩, rv⟩ := q0
    refine hb F1 H1 σ l1.s j1 (sl.mono l1.f) _ fun u F2 H2 l2 q1 => ?_
    obtain ⟨j2, d, ⟨k, pk, rfl⟩, ru⟩ := q1
    cases ru
    cases rv with
    | lst hs ha =>
      refine ⟨_, rfl, _, _, rfl, sql_sub (l2.f.trans l2.s) hs, fun p hp => q (.ref p) (upd F2 p _) _ ((l1.trans l2).trans (Le.new l2.s hp).up) ⟨c F2 H2 _ _ (Le.new l2.s hp) j2, _, ⟨acc, k, pa, pk, rfl⟩, .lst (SqL.of upd_same) ?_⟩⟩
      rw [← cut_to']
      exact ((ha.mono l2.f).mono (Sub.new (l2.s.none hp))).cut none (some (k : Int))
theorem e_revL {K : PySem.W.Frag} {ρ : Ro} {te : TE} {ds : List PyData} (h : Ev K te ρ (.list ds)) : Ev K (tRevL K te) ρ (.list ds.reverse) := fun F H σ s sl Q q => h F H σ s sl _ fun v F1 H1 l1 r1 => by
  cases r1 with
  | lst hs ha => exact ⟨_, _, rfl, sql_sub l1.s hs, fun p hp => q (.ref p) (upd F1 p _) _ (l1.trans (Le.new l1.s hp)) (.lst (SqL.of upd_same) ((ha.mono (Sub.new (l1.s.none hp))).rev))⟩
end
end LK
namespace LK
open PySem PySem.Spec PyProof.Rows L2
def kn12 : List Str := ["gone", "there", "going", "free", "held", "wanted", "unwanted", "bare", "child", "right", "wrong", "alone"]
def kn3 : List Str := ["others", "tidy", "strays"]
def deeds8 : List Str := ["make", "mark", "correct", "strike", "clear", "hold", "release", "turn"]
def parts4 : List Str := ["thing", "stray", "own", "other"]
theorem sub_strs {acc : List PyData} {xs : List Str} (h : acc.Sublist (xs.map PyData.str)) : ∃ ss : List Str, ss.Sublist xs ∧ acc = ss.map PyData.str := by
  obtain ⟨ss, h1, h2⟩ := List.sublist_map_iff.mp h
  exact ⟨ss, h1, h2⟩
end LK
namespace K47
open PySem PySem.Spec PyProof.Rows L2 LK
section
variable {P : Program} {w : World} {h : Heap} {K : PySem.W.Frag} {mg : Str → Option Value} {base : Heap}
def poolD (b : List PyData) : Prop := ∃ xs : List Str, b = [.list (xs.map PyData.str)] ∧ (∀ x ∈ xs, wordS x = true) ∧ xs ≠ [] ∧ xs.length ≤ 100
abbrev spRule (K : PySem.W.Frag) : Sp := spDrw K 2 poolD (fun _ d => ruleD d) 22
theorem ok_law_any_rule (T : Tx w h K mg) : FOk P w K mg base CX0 4 "_law_any_rule" ["_law_draw", "_law_some"] (spRule K) := by
  obtain ⟨fd, F⟩ := T.d_law_any_rule
  refine ⟨T.g_law_any_rule, F.kp, fd, okDr F sc_law_any_rule (fun cdv A outer s H E hr => ⟨_, (pss_cons (ps_set (i := 2) sc_law_any_rule.nd rfl (.inl rfl) (pe_lst (pa_cons pe_str (pa_cons pe_str (pa_cons pe_str (pa_cons pe_str (pa_cons pe_str (pa_cons pe_str (pa_cons pe_str (pa_cons pe_str (pa_cons pe_str (pa_cons pe_str (pa_cons pe_str (pa_cons pe_str pa_nil))))))))))))))
    (pss_cons (ps_set (i := 2) sc_law_any_rule.nd rfl (.inl rfl) (pe_op (kk_catL (K := K) rfl) (pv 2) (pe_lst (pa_cons pe_str (pa_cons pe_str (pa_cons pe_str pa_nil))))))
    (pss_cons (ps_set (i := 3) sc_law_any_rule.nd rfl (.inl rfl) (pe_slice (kk_slL (K := K) rfl) (pe_lc (own := [("_law_one", 6)]) rfl sc_law_any_rule.nd (kk_pi_list (K := K) rfl (pv 2)) (blkOk_by (N := ["_law_draw", "_law_some", "_law_known_here", "_law_sight", "_law_word_here", "_law_checks", "_law_one", "_law_part"]) (sc := defScope st_law_any_rule) (by decide +kernel)) (fun _ _ _ _ _ => (pg_name (i := 6) sc_law_any_rule.nd rfl (.inl rfl))) (fun _ _ _ _ _ => (pts_one (pt_cmpR op_eq (LK.pe_fn (ok_law_take T) (hr.mono (by decide)) pass0 (pa_cons (pv 0) (pa_cons pe_int pa_nil))) pe_int (nomark _)))) (fun _ _ _ _ _ => (pv 6))) po_none (po_some (LK.pe_fn (ok_law_take T) (hr.mono (by decide)) pass0 (pa_cons (pv 0) (pa_cons pe_int pa_nil))))))
    (pss_cons (ps_set (i := 4) sc_law_any_rule.nd rfl (.inl rfl) (LK.pe_fn (ok_law_pick T) (hr.mono (by decide)) pass0 (pa_cons (pv 0) (pa_cons (pe_lst (pa_cons pe_str (pa_cons pe_str (pa_cons pe_str (pa_cons pe_str (pa_cons pe_str (pa_cons pe_str (pa_cons pe_str (pa_cons pe_str pa_nil))))))))) pa_nil))))
    (pss_cons (ps_setLc (i := 5) (own := [("_law_part", 7)]) rfl sc_law_any_rule.nd rfl rfl (sw_true rfl rfl rfl (by decide +kernel)) (kk_pi_list (K := K) rfl (pe_lst (pa_cons pe_str (pa_cons pe_str (pa_cons pe_str (pa_cons pe_str pa_nil)))))) (blkOk_by (N := ["_law_draw", "_law_some", "_law_known_here", "_law_sight", "_law_word_here", "_law_checks", "_law_one", "_law_part"]) (sc := defScope st_law_any_rule) (by decide +kernel)) (fun _ _ _ _ _ => (pg_name (i := 7) sc_law_any_rule.nd rfl (.inl rfl))) (fun _ _ _ _ _ => (pts_one (pt_cmpR op_eq (LK.pe_fn (ok_law_take T) (hr.mono (by decide)) pass0 (pa_cons (pv 0) (pa_cons pe_int pa_nil))) pe_int (nomark _)))) (fun _ _ _ _ _ => (pv 7)))
    (pss_one (ps_ret (pe_tup (pa_cons (pe_callTy (kk_tupOf (K := K) rfl) (by rfl) T.f_tuple boot_tuple (pa_cons (pe_revL (pv 3)) pa_nil)) (pa_cons (pe_ifExp (pt_cmpR op_eq (pv 4) pe_str (nomark _)) (pe_tup (pa_cons pe_str (pa_cons (LK.pe_fn (ok_law_pick T) (hr.mono (by decide)) pass0 (pa_cons (pv 0) (pa_cons (pv 1) pa_nil))) pa_nil))) (pe_tup (pa_cons (pv 4) pa_nil))) (pa_cons (pe_callTy (kk_tupOf (K := K) rfl) (by rfl) T.f_tuple boot_tuple (pa_cons (pv 5) pa_nil)) pa_nil))))))))))), ?_⟩), F.bindsN fun _ _ _ _ _ _ us hl => match us, hl with | [_, _], _ => rfl⟩
  rintro D G n b hn ⟨xs, rfl, hx, hx0, hxl⟩ _
  refine q_asgD (K := K) (d := .list (kn12.map PyData.str)) (e_lst (a_cons e_str (a_cons e_str (a_cons e_str (a_cons e_str (a_cons e_str (a_cons e_str (a_cons e_str (a_cons e_str (a_cons e_str (a_cons e_str (a_cons e_str (a_cons e_str a_nil)))))))))))) (by decide)) cl_dr ?_
  refine q_asgD (K := K) (d := .list ((kn12 ++ kn3).map PyData.str)) (e_catL (ds := kn12.map PyData.str) (es := kn3.map PyData.str) (e_dv (d := .list (kn12.map PyData.str))) (e_lst (a_cons e_str (a_cons e_str (a_cons e_str a_nil))) (by decide)) (by decide)) cl_dr ?_
  refine q_asgE (K := K) (J1 := DrAt K D G (n + 16)) (P := fun d => ∃ (acc : List PyData) (k : Nat), acc.Sublist ((kn12 ++ kn3).map PyData.str) ∧ k < 5 ∧ d = .list (acc.take k)) ?_ fun d hd => ?_
  · refine sd_slTo (J1 := DrAt K D G (n + 15)) (Pl := fun acc => acc.Sublist ((kn12 ++ kn3).map PyData.str)) (Pk := fun k => k < 5) ?_ ?_ cl_dr
    · exact sd_lcTake (n := n) (m := 6) (ns := [6]) (up := fun d ρ => ρ.set 6 (some (MP.d K d))) (src_list (e_dv (i := 2) (d := .list ((kn12 ++ kn3).map PyData.str)))) (fun d => gt_name) (fun _ h => h) (by decide) (by show n + 15 < _; omega) (fun d => rfl) (by decide) (by decide) (fun d => e_dv (i := 6))
    · exact sd_take (n := n + 15) (m := 5) rfl e_int (by decide) (by decide) (by omega)
  obtain ⟨acc, k, hs, hk, rfl⟩ := hd
  obtain ⟨ss, hss, rfl⟩ := sub_strs hs
  rw [← List.map_take]
  refine q_asgE (K := K) (J1 := DrAt K D G (n + 17)) (P := fun d => d ∈ deeds8.map PyData.str) ?_ fun d hd => ?_
  · exact sd_pick (n := n + 16) (d := .list (deeds8.map PyData.str)) rfl (e_lst (a_cons e_str (a_cons e_str (a_cons e_str (a_cons e_str (a_cons e_str (a_cons e_str (a_cons e_str (a_cons e_str a_nil)))))))) (by decide)) rfl (by simp [deeds8]) (by decide) (by omega)
  obtain ⟨x, hxd, rfl⟩ := List.mem_map.mp hd
  refine q_asgE (K := K) (J1 := DrAt K D G (n + 21)) (P := fun d => ∃ acc : List PyData, acc.Sublist (parts4.map PyData.str) ∧ d = .list acc) ?_ fun d hd2 => ?_
  · exact sd_lcTake (n := n + 17) (m := 4) (ns := [7]) (up := fun d ρ => ρ.set 7 (some (MP.d K d))) (src_list (ds := parts4.map PyData.str) (e_lst (a_cons e_str (a_cons e_str (a_cons e_str (a_cons e_str a_nil)))) (by decide))) (fun d => gt_name) (fun _ h => h) (by decide) (by show n + 17 + 4 < _; omega) (fun d => rfl) (by decide) (by decide) (fun d => e_dv (i := 7))
  obtain ⟨acc2, hs2, rfl⟩ := hd2
  obtain ⟨cs, hcs, rfl⟩ := sub_strs hs2
  have hdeed : ∀ y ∈ deeds8, y = "turn" ∨ y ∈ plainS := by decide +kernel
  have hkn : ∀ y ∈ kn12 ++ kn3, y ∈ condsS := by decide +kernel
  have hpa : ∀ y ∈ parts4, y ∈ partsS := by decide +kernel
  have hk1 : (kn12 ++ kn3).Nodup := by decide +kernel
  have hp1 : parts4.Nodup := by decide +kernel
  refine s_retE (K := K) (J1 := DrAt K D G (n + 22)) (P := fun d => ∃ ds, (∃ d1 r1, d1 = .tuple ((ss.take k).map PyData.str).reverse ∧ (∃ d2 r2, deedD d2 ∧ (∃ d3 r3, d3 = .tuple (cs.map PyData.str) ∧ r3 = [] ∧ r2 = d3 :: r3) ∧ r1 = d2 :: r2) ∧ ds = d1 :: r1) ∧ d = .tuple ds) (sd_tup (da_cons (J1 := DrAt K D G (n + 21)) ?_ (da_cons (J1 := DrAt K D G (n + 22)) ?_ (da_cons (J1 := DrAt K D G (n + 22)) ?_ da_nil))) cl_dr ?_) fun v F H d j p r => ⟨j, d, ?_, r⟩
  · exact sd_of (e_tupOf (e_revL (e_dv (i := 3) (d := .list ((ss.take k).map PyData.str)))) rfl) cl_dr
  · refine sd_if (EvSB.of (b_test (e_eqS (e_dv (i := 4) (d := .str x)) e_str)) cl_dr) ?_ ?_
    · refine EvD.to (J1 := DrAt K D G (n + 22)) (P := fun d => ∃ ds, (∃ d1 r1, d1 = PyData.str "turn" ∧ (∃ d2 r2, d2 ∈ xs.map PyData.str ∧ r2 = [] ∧ r1 = d2 :: r2) ∧ ds = d1 :: r1) ∧ d = .tuple ds) (sd_tup (da_cons (J1 := DrAt K D G (n + 21)) (EvS.pre (sd_of e_str cl_dr) fun F H j => j.1) (da_cons (sd_pick (n := n + 21) rfl (e_dv (i := 1) (d := .list (xs.map PyData.str))) rfl (by simpa using hx0) (by rw [List.length_map]; omega) (by omega)) da_nil)) cl_dr ?_) (fun F H j => j) ?_
      · rintro ds ⟨d1, r1, _, ⟨d2, r2, _, rfl, rfl⟩, rfl⟩
        show 2 ≤ sizeLine
        decide
      · rintro d ⟨ds, ⟨d1, r1, rfl, ⟨d2, r2, hm, rfl, rfl⟩, rfl⟩, rfl⟩
        obtain ⟨y, hy, rfl⟩ := List.mem_map.mp hm
        exact .inl ⟨y, hx y hy, rfl⟩
    · by_cases e : x = "turn"
      · exact fun F H σ s j => absurd j.2 (by rw [decide_eq_true e]; decide)
      · refine EvD.to (J1 := DrAt K D G (n + 21)) (P := fun d => d = .tuple [.str x]) (EvS.pre (sd_of (e_tup (a_cons (e_dv (i := 4) (d := .str x)) a_nil) (by show 1 ≤ sizeLine; decide)) cl_dr) fun F H j => j.1) (fun F H j => j.le (by omega)) fun d hd => ?_
        subst hd
        exact .inr ⟨x, (hdeed x hxd).resolve_left e, rfl⟩
  · exact sd_of (e_tupOf (e_dv (i := 5) (d := .list (cs.map PyData.str))) rfl) cl_dr
  · rintro ds ⟨d1, r1, _, ⟨d2, r2, _, ⟨d3, r3, _, rfl, rfl⟩, rfl⟩, rfl⟩
    show 3 ≤ sizeLine
    decide
  · obtain ⟨ds, ⟨d1, r1, rfl, ⟨d2, r2, hd2, ⟨d3, r3, rfl, rfl, rfl⟩, rfl⟩, rfl⟩, rfl⟩ := p
    have ht : (ss.take k).Sublist (kn12 ++ kn3) := (List.take_sublist k ss).trans hss
    refine ⟨(ss.take k).reverse, cs, d2, by rw [List.map_reverse], ⟨(List.Perm.nodup_iff (List.reverse_perm _)).mpr (ht.nodup hk1), fun y hy => hkn y (ht.subset (List.mem_reverse.mp hy)), ?_⟩, hd2, hcs.nodup hp1, fun y hy => hpa y (hcs.subset hy), hcs.length_le⟩
    rw [List.length_reverse, List.length_take]
    omega
end
end K47

set_option Elab.async false
set_option linter.all false
set_option maxRecDepth 100000
set_option maxHeartbeats 4000000
/-! PD47n: what a piece of work raises (a lambda handed over, its error kept). -/
namespace LK
open PySem PySem.Spec PyProof.Rows L2 LamX
theorem takes_len {X : Cx} {W : WX} (t : Takes X W) : Takes X (fun cls d σ H => σ.length = X.N.length → W cls d σ H) := fun u s' ⟨a, B, sI, pins, σ, H, cls, d, e, I, nb, up, sky, na, os, ag, w⟩ =>
  t u s' ⟨a, B, sI, pins, σ, H, cls, d, e, I, nb, up, sky, na, os, ag, w I.len⟩
/-- what is made of the work's reading: [] behind it; of an error of the class at CB, its field f in a list -/
def TTref (K : PySem.W.Frag) (CS CB : Addr) (f : Str) : (XK → Hp → VK → Prop) → Hp → VK → Prop := fun tl H Q =>
  tl (fun cls d H' => PySem.W.exmOne K cls (.ref CS) = some true ∧ ∃ (dd : Addr) (v : V), cls = .ref CB ∧ d = some dd ∧ H' dd = some (.xd [(f, v)]) ∧ ∀ a p, H' a = none → (upd H' a (errO a cls d)) p = none → Q (.ref p) (upd (upd H' a (errO a cls d)) p (.lst [v]))) H
    (fun _ H' => ∀ p, H' p = none → Q (.ref p) (upd H' p (.lst [])))
theorem pe_mono {X : Cx} {e : Expr} {te : TE} (h : PE X e te) : PE X e (fun σ H Q => ∃ Qn : VK, te σ H Qn ∧ ∀ v H', Qn v H' → Q v H') := ⟨fun pins s σ H Q I ⟨Qn, a, m⟩ =>
  thn (h.run pins s σ H Qn I a) fun u s' ⟨v, H', I', r, q⟩ => ⟨v, H', I', r, m v H' q⟩⟩
end LK
namespace K47
open PySem PySem.Spec PyProof.Rows L2 LK LamX
section
variable {w : World} {h : Heap}
theorem refusal_gives {X : Cx} {g : Addr} {cdg : Value} {q : Str} (T : Tx w h X.K X.mg) : GivesTo X nm_law_refusal "_law_refusal" (defScope st_law_refusal) g cdg (defBody st_law_refusal) "_law_work" q (TTref X.K (He.ga X.K "KeeperError") (He.ga X.K "BadWord") "thing") := by
  intro f c' s H Q tl act hc h
  refine ⟨_, pss_cons (ps_set (i := 1) sc_law_refusal.nd rfl (.inl rfl) pe_non)
    (pss_cons (ps_try_keep (X := (cxOf C8.CX0 X.prog X.w X.K X.mg X.base nm_law_refusal "_law_refusal" (defScope st_law_refusal) g cdg X.A X.stack s H C8.E0).nox) (c := .ref (He.ga X.K "KeeperError")) (i := 2)
      (tb := fun W D σ H => ∃ Ech : XK, (∀ cls d σ' H', σ'.length = 3 → Ech cls d H' → W cls d σ' H') ∧ σ[0]? = some (some (.ref f)) ∧ H c' = some (CodeO c' q) ∧ ∃ Qn : VK, tl Ech H Qn ∧ ∀ v H', Qn v H' → D.nx σ H')
      rfl rfl rfl sc_law_refusal.nd rfl rfl ⟨rfl, by decide, .inl T.g_KeeperError⟩ L2.takes0 (fun W pn xe tk _ => ?_) (fun a oe cls d pn _ _ => pss_one (ps_set (i := 1) sc_law_refusal.nd rfl (.inl rfl) (pv 2))))
    (pss_cons (ps_if (pt_cmpR op_isN (pv 1) pe_non (nomark _)) (pss_one (ps_ret (pe_lst pa_nil))) pss_nil)
    (pss_one (ps_ret (pe_ifExp (pt_val (pe_callB call_isErr (by rfl) T.f_isinstance boot_isinstance (pa_cons (pv 1) (pa_cons (pe_glob (v := .ref (He.ga X.K "BadWord")) rfl T.g_BadWord rfl) pa_nil))))
      (pe_lst (pa_cons (pe_errF T.err.xf T.err.no (pv 1)) pa_nil)) (pe_lst (pa_cons pe_str pa_nil))))))), ?_⟩
  · refine ⟨fun pins s' σ H' D I h' => ?_⟩
    obtain ⟨Ech, hW, h1, h2, Qn, h3, h4⟩ := h'
    have hp := fun p1 p2 => act (fun cls d σ H => σ.length = 3 → W cls d σ H) pn xe Ech p1 p2 (takes_len tk) (fun cls d σ' H' e hl => hW cls d σ' H' hl e)
    exact (pss_one (ps_expr (pe_mono (hp _ _)))).run pins s' σ H' D I ⟨Qn, ⟨h1, h2, h3⟩, h4⟩
  · refine ⟨_, ?_, rfl, hc, _, h, fun v H' q => ?_⟩
    · intro cls d σ' H' hl ⟨e1, dd, v, e2, e3, e4, e5⟩
      subst e2 e3
      match σ', hl with
      | [x0, x1, x2], _ =>
        refine ⟨true, e1, fun _ a na => ⟨.ref a, rfl, ?_⟩, fun z => by cases z⟩
        refine ⟨.ref a, rfl, rfl, false, by simp, ?_⟩
        exact ⟨.ref a, rfl, a, _, some dd, rfl, upd_same, true, rfl, .ref a, rfl, a, dd, _, v, rfl, upd_same, (upd_ne (ne_of_none e4 na)).trans e4, rfl, by show 1 ≤ sizeLine; decide, fun p hp => e5 a p na hp⟩
    · exact ⟨.non, rfl, rfl, true, by simp, by show 0 ≤ sizeLine; decide, q⟩
end
end K47

set_option Elab.async false
set_option linter.all false
set_option maxRecDepth 100000
set_option maxHeartbeats 4000000
/-! PD47p: the law's state: the draws, the table of its lambdas, the list that is found. -/
namespace LK
open PySem PySem.Spec PyProof.Rows L2 LamX
abbrev SAll : Addr → Prop := fun _ => True
/-- the draw state; the table at PT; the list that is found -/
def JL (K : PySem.W.Frag) (D G PT : Addr) (q : Str) (n : Nat) (lo : Option (Addr × List PyData)) : JP := fun F H => DrAt K D G n F H ∧ (TabS H PT q ∧ F PT = none) ∧ ∀ p, lo = some p → p.1 ≠ D ∧ p.1 ≠ G ∧ p.1 ≠ PT ∧ LsAt K p.1 p.2 F H
section
variable {K : PySem.W.Frag} {D G PT : Addr} {q : Str} {n m : Nat} {lo : Option (Addr × List PyData)} {ρ : Ro} {te : TE} {i : Nat} {J : JP}
theorem cl_JL : Cl (JL K D G PT q n lo) := fun F H F2 H2 l ⟨a, ⟨b, c⟩, d⟩ => ⟨cl_dr F H F2 H2 l a, ⟨b.ext l.sub, by obtain ⟨ps, z, _⟩ := b; exact l.n PT _ z c⟩, fun p hp => ⟨(d p hp).1, (d p hp).2.1, (d p hp).2.2.1, cl_lsAt F H F2 H2 l (d p hp).2.2.2⟩⟩
theorem JL.le {F H : Hp} (h : JL K D G PT q n lo F H) (l : n ≤ m) : JL K D G PT q m lo F H := ⟨h.1.le l, h.2⟩
theorem JL.forget {F H : Hp} (h : JL K D G PT q n lo F H) : JL K D G PT q n none F H := ⟨h.1, h.2.1, fun p hp => nomatch hp⟩
theorem jl_dr {F H F2 H2 : Hp} (l : Fr (SDr D G) F H F2 H2) (j : JL K D G PT q n lo F H) (k : DrAt K D G m F2 H2) : JL K D G PT q m lo F2 H2 := by
  obtain ⟨⟨_, _, _, gs, cs, r, t, C, h1, h2, _⟩, ⟨⟨ps, t1, t2, t3⟩, c⟩, d⟩ := j
  have ne : ∀ {a o}, H a = some o → (∀ kvs, o ≠ .dK kvs) → (∀ xs, o ≠ .lst xs) → H2 a = some o := fun {a o} e x y => l.h a o e fun z => by
    rcases z with z | z
    · rw [z, h1] at e; exact x _ (Option.some.inj e).symm
    · rw [z, h2] at e; exact y _ (Option.some.inj e).symm
  refine ⟨k, ⟨⟨ps, ne t1 (fun _ z => nomatch z) (fun _ z => nomatch z), t2, fun pos cv hc => ?_⟩, l.n PT _ t1 c⟩, fun p hp => ?_⟩
  · obtain ⟨c0, e1, e2⟩ := t3 pos cv hc
    exact ⟨c0, e1, ne e2 (fun _ z => by unfold CodeO at z; cases z) (fun _ z => by unfold CodeO at z; cases z)⟩
  · obtain ⟨p1, p2, p3, xs, x1, x2, x3⟩ := d p hp
    exact ⟨p1, p2, p3, xs, l.n _ _ x2 x1, l.h _ _ x2 (fun z => z.elim p1 p2), x3.mono l.f⟩
theorem jl_P {F H F2 H2 : Hp} (l : Fr (· = PT) F H F2 H2) (t : TabS H2 PT q ∧ F2 PT = none) (j : JL K D G PT q n lo F H) : JL K D G PT q n lo F2 H2 := by
  obtain ⟨⟨a1, a2, ne, gs, cs, r, t', C, h1, h2, h3, h4, h5⟩, ⟨⟨ps, t1, t2, t3⟩, c⟩, d⟩ := j
  have hD : D ≠ PT := fun z => by rw [z, t1] at h1; cases h1
  have hG : G ≠ PT := fun z => by rw [z, t1] at h2; cases h2
  refine ⟨⟨l.n D _ h1 a1, l.n G _ h2 a2, ne, gs, cs, r, t', C, l.h D _ h1 hD, l.h G _ h2 hG, h3.mono l.f, h4, h5⟩, t, fun p hp => ?_⟩
  obtain ⟨p1, p2, p3, xs, x1, x2, x3⟩ := d p hp
  exact ⟨p1, p2, p3, xs, l.n _ _ x2 x1, l.h _ _ x2 p3, x3.mono l.f⟩
/-- what changes the draw state alone -/
theorem lift_dr {Pd : PyData → Prop} (h : EvD K (SDr D G) (DrAt K D G n) (DrAt K D G m) te ρ Pd) : EvD K SAll (JL K D G PT q n lo) (JL K D G PT q m lo) te ρ Pd := fun F H σ s j sl Q qq =>
  h F H σ s j.1 sl Q fun v F2 H2 l ⟨k, d, p, r⟩ => qq v F2 H2 (l.weak fun _ _ => trivial) ⟨jl_dr l j k, d, p, r⟩
/-- refusal(lambda: ..): due x in a list -/
theorem es_lam {α : Type} {CS CB : Addr} {f : Str} {due : α → Option PyData} {t : XK → TE} (x : α) (hex : PySem.W.exmOne K (.ref CB) (.ref CS) = some true)
    (hin : ∀ F H σ, Sub F H → SlOk F σ ρ → ∀ (E : XK) (Q : VK), (due x = none → ∀ v F2 H2, Le F H F2 H2 → Q v H2) → (∀ d, due x = some d → EX K CB f F H d E) → t E σ H Q) :
    EvS (· = PT) (fun F H => TabS H PT q ∧ F PT = none) (tLamP PT q (TTref K CS CB f) t) ρ (fun v F H => (TabS H PT q ∧ F PT = none) ∧ Dat K F (.list (due x).toList) v) := fun F H σ s ⟨tb, fp⟩ sl Q qq => by
  refine ⟨tb, fun H1 ext tb1 => ?_⟩
  have nP : ∀ a o, F a = some o → a ≠ PT := fun a o e z => by rw [z, fp] at e; cases e
  have sub1 : Sub F H1 := fun a o e => ext a o (nP a o e) (s a o e)
  have l0 : Fr (· = PT) F H F H1 := ⟨Sub.refl F, sub1, fun a o e z => ext a o z e, fun a o _ z => z, fun a o e => by
    by_cases h : a = PT
    · obtain ⟨ps, z, _⟩ := tb1; exact ⟨_, by rw [h]; exact z⟩
    · exact ⟨o, ext a o h e⟩, fun z => z⟩
  have mk : ∀ {F3 H3 : Hp} {p : Addr} {d : List PyData} {xs : List V}, Le F H1 F3 H3 → H3 p = none → DatA K F3 d xs → d = (due x).toList → Q (.ref p) (upd H3 p (.lst xs)) := fun {F3 H3 p d xs} l np da e => by
    subst e
    have l2 : Le F3 H3 (upd F3 p (.lst xs)) (upd H3 p (.lst xs)) := Le.new l.s np
    have lf := l.trans l2
    refine qq (.ref p) (upd F3 p (.lst xs)) _ (l0.trans lf.up) ⟨⟨tb1.ext (Le.sub lf), ?_⟩, .lst (SqL.of upd_same) (da.mono l2.f)⟩
    obtain ⟨ps, z, _⟩ := tb1
    exact lf.n PT _ z fp
  refine hin F H1 σ sub1 sl _ _ (fun e v F2 H2 l p np => mk l np .nil (by rw [e]; rfl)) fun d e v F2 H2 dd l dv nd => ?_
  refine ⟨hex, dd, v, rfl, rfl, upd_same, fun a p na np => ?_⟩
  have l3 : Le F2 H2 F2 (upd H2 dd (.xd [(f, v)])) := Le.newM l.s nd
  have l4 : Le F2 (upd H2 dd (.xd [(f, v)])) F2 (upd (upd H2 dd (.xd [(f, v)])) a (errO a (.ref CB) (some dd))) := Le.newM l3.s na
  exact mk ((l.trans l3).trans l4) np (.cons dv .nil) (by rw [e]; rfl)
/-- .. in the law's state -/
theorem lift_P {d : PyData} (h : EvS (· = PT) (fun F H => TabS H PT q ∧ F PT = none) te ρ (fun v F H => (TabS H PT q ∧ F PT = none) ∧ Dat K F d v)) : EvD K SAll (JL K D G PT q n lo) (JL K D G PT q n lo) te ρ (fun e => e = d) := fun F H σ s j sl Q qq =>
  h F H σ s j.2.1 sl Q fun v F2 H2 l ⟨t, r⟩ => qq v F2 H2 (l.weak fun _ _ => trivial) ⟨jl_P l t j, d, rfl, r⟩
/-- x = [e]; the rest changes the list -/
theorem q_found {P : PyData → Prop} {u : TS} {Nx : Ro → JP} {R : V → JP} (h : EvD K SAll (JL K D G PT q n none) (JL K D G PT q n none) te ρ P) (k : ∀ L d, P d → St SAll (JL K D G PT q n (some (L, [d]))) u (ρ.set i (some (MP.v (.ref L)))) Nx R) :
    St SAll (JL K D G PT q n none) (tSeq (tAsg (tLst (tCons te tNil)) (gName i)) u) ρ Nx R := fun F H σ s j sl E hr hn =>
  h F H σ s j sl _ fun v F1 H1 l1 ⟨j1, d, pd, rv⟩ => ⟨by show 1 ≤ sizeLine; decide, fun L hL => by
    have l2 : Le F1 H1 F1 (upd H1 L (.lst [v])) := Le.newM l1.s hL
    have l := l1.trans l2.up
    have j2 := cl_JL F1 H1 _ _ l2 j1
    obtain ⟨⟨a1, a2, ne, gs, cs, r, t', C, h1, h2, h3, h4, h5⟩, ⟨⟨ps, t1, t2, t3⟩, c⟩, _⟩ := id j1
    exact k L d pd F1 _ _ l2.s ⟨j2.1, j2.2.1, fun p hp => by
      cases hp
      exact ⟨(fun z => by rw [← z, hL] at h1; cases h1), (fun z => by rw [← z, hL] at h2; cases h2), (fun z => by rw [← z, hL] at t1; cases t1), [v], l1.s.none hL, upd_same, .cons rv .nil⟩⟩ ((sl.mono l.f).set (m := MP.v (.ref L)) i rfl) E (fun v F2 H2 l' r => hr v F2 H2 (l.trans l') r) fun ρ' σ' F2 H2 l' r => hn ρ' σ' F2 H2 (l.trans l') r⟩
theorem q_found2 {L : Addr} {acc : List PyData} {P : PyData → Prop} {u : TS} {Nx : Ro → JP} {R : V → JP} (hi : ρ[i]? = some (some (MP.v (.ref L)))) (h : EvD K SAll (JL K D G PT q n (some (L, acc))) (JL K D G PT q n (some (L, acc))) te ρ P) (hz : acc.length < sizeLine)
    (k : ∀ d, P d → St SAll (JL K D G PT q n (some (L, acc ++ [d]))) u ρ Nx R) : St SAll (JL K D G PT q n (some (L, acc))) (tSeq (tDrop (tBM K "list" rAppend (tVar i) (tCons te tNil))) u) ρ Nx R := fun F H σ s j sl E hr hn => by
  obtain ⟨_, _, _, xs0, _, hx0, _⟩ := j.2.2 _ rfl
  refine ⟨.ref L, dr_var hi sl, .inl ⟨rfl, xs0, SqL.of hx0⟩, h F H σ s j sl _ fun v F1 H1 l1 ⟨j1, d, pd, rv⟩ => ?_⟩
  obtain ⟨⟨a1, a2, ne, gs, cs, r, t', C, h1, h2, h3, h4, h5⟩, ⟨⟨ps, t1, t2, t3⟩, c⟩, jl⟩ := j1
  obtain ⟨p1, p2, p3, xs, x1, x2, x3⟩ := jl _ rfl
  refine ⟨L, xs, v, rfl, rfl, x2, by rw [← x3.length]; exact hz, ?_⟩
  have l2 : Fr SAll F1 H1 F1 (upd H1 L (.lst (xs ++ [v]))) := Fr.mut l1.s x1 trivial
  have up : ∀ {a : Addr} {o : HO}, a ≠ L → H1 a = some o → upd H1 L (.lst (xs ++ [v])) a = some o := fun {a o} z e => by rw [upd_ne z]; exact e
  refine k d pd F1 _ σ l2.s ⟨⟨a1, a2, ne, gs, cs, r, t', C, up (Ne.symm p1) h1, up (Ne.symm p2) h2, h3, h4, h5⟩, ⟨⟨ps, up (Ne.symm p3) t1, t2, fun pos cv hc => ?_⟩, c⟩, fun p hp => ?_⟩ (sl.mono l1.f) E (fun v F2 H2 l' r => hr v F2 H2 ((l1.trans l2).trans l') r) fun ρ' σ' F2 H2 l' r => hn ρ' σ' F2 H2 ((l1.trans l2).trans l') r
  · obtain ⟨c0, e1, e2⟩ := t3 pos cv hc
    exact ⟨c0, e1, up (fun z => by subst z; rw [x2] at e2; unfold CodeO at e2; cases e2) e2⟩
  · cases hp
    exact ⟨p1, p2, p3, _, x1, upd_same, x3.app (.cons rv .nil)⟩
/-- repr of the list -/
theorem es_reprL {L : Addr} {acc : List PyData} (hi : ρ[i]? = some (some (MP.v (.ref L)))) (h1 : (PyData.list acc).showable = true) (h2 : (PyData.list acc).shown.length ≤ sizeLine) (h3 : (PyData.list acc).depth ≤ 40) :
    EvS SAll (JL K D G PT q n (some (L, acc))) (tRepr K (tVar i)) ρ (fun v F H => JL K D G PT q n (some (L, acc)) F H ∧ v = .str (PyData.list acc).shown) := fun F H σ s j sl Q qq => by
  obtain ⟨_, _, _, xs, x1, x2, x3⟩ := j.2.2 _ rfl
  exact ⟨.ref L, dr_var hi sl, upd F L (.lst xs), .list acc, Le.freeze s x2, .lst (SqL.of upd_same) (x3.mono (Sub.new x1)), h1, h2, h3, qq _ F H (Fr.refl s) ⟨j, rfl⟩⟩
/-- repr([d] * 5) -/
theorem es_repr5 {d : PyData} (hc : Cl J) (h : Ev K te ρ d) (h1 : (PyData.list [d, d, d, d, d]).showable = true) (h2 : (PyData.list [d, d, d, d, d]).shown.length ≤ sizeLine) (h3 : (PyData.list [d, d, d, d, d]).depth ≤ 40) :
    EvS SAll J (tRepr K (tOp rRep (tLst (tCons te tNil)) (tC (.int 5)))) ρ (fun v F H => J F H ∧ v = .str (PyData.list [d, d, d, d, d]).shown) := fun F H σ s j sl Q qq =>
  h F H σ s sl _ fun v F1 H1 l1 r1 => ⟨by show 1 ≤ sizeLine; decide, fun a ha => ⟨a, 5, [v], rfl, rfl, upd_same, by decide, by decide, by show 1 * 5 ≤ sizeLine; decide, fun p hp => by
    have l2 : Le F1 H1 F1 (upd H1 a (.lst [v])) := Le.newM l1.s ha
    have l3 : Le F1 (upd H1 a (.lst [v])) (upd F1 p (.lst [v, v, v, v, v])) (upd (upd H1 a (.lst [v])) p (.lst [v, v, v, v, v])) := Le.new l2.s hp
    have l := (l1.trans l2).trans l3
    have r3 := r1.mono l3.f
    exact ⟨upd F1 p (.lst [v, v, v, v, v]), .list [d, d, d, d, d], l3.s, .lst (SqL.of upd_same) (.cons r3 (.cons r3 (.cons r3 (.cons r3 (.cons r3 .nil))))), h1, h2, h3, qq _ _ _ l.up ⟨hc _ _ _ _ l j, rfl⟩⟩⟩⟩
/-- a list comprehension whose items are drawn -/
theorem sd_lcE {c : Nat} {wi : TI} {g : TG} {ds : List PyData} {ns vs : List Nat} {up : PyData → Ro → Ro} {Pe : PyData → Prop} (hs : Src K wi ρ ds) (hg : ∀ d, GtD K g d ns (up d)) (hv : ∀ k ∈ ns, k ∈ vs) (hz : ds.length < sizeLine)
    (he : ∀ d ∈ ds, ∀ k, k ≤ ds.length → EvD K (SDr D G) (DrAt K D G (n + c * k)) (DrAt K D G (n + c * (k + 1))) te (up d (wipeR ρ vs)) Pe) :
    EvD K (SDr D G) (DrAt K D G n) (DrAt K D G (n + c * ds.length)) (tLc wi g tYes te vs) ρ (fun d => ∃ acc : List PyData, (acc.length = ds.length ∧ ∀ e ∈ acc, Pe e) ∧ d = .list acc) :=
  EvS.imp (es_lc (K := K) here_dr (SrcS.of hs cl_dr) hg hv (fun ds' k acc F H => ds' = ds ∧ k ≤ ds.length ∧ (acc.length = k ∧ ∀ e ∈ acc, Pe e) ∧ DrAt K D G (n + c * k) F H) (fun ds' F H g => ⟨g.1, Nat.zero_le _, ⟨rfl, by simp⟩, g.2⟩) (fun ds' k acc F H F2 H2 l h g => ⟨g.1, g.2.1, g.2.2.1, dep_dr F H F2 H2 l h g.2.2.2⟩)
    (fun ds' k acc F H g => by rw [g.2.2.1.1]; exact Nat.lt_of_le_of_lt g.2.1 hz)
    (fun ds' k acc b F H => b = true ∧ ds' = ds ∧ k ≤ ds.length ∧ (acc.length = k ∧ ∀ e ∈ acc, Pe e) ∧ DrAt K D G (n + c * k) F H) (fun ds' k d acc hd F H σ s j sl Q qq => qq true F H (Fr.refl s) ⟨rfl, j⟩)
    (fun ds' k acc F H g => nomatch g.1) (fun ds' k d acc hd F H σ s j sl Q qq => by
      obtain ⟨_, e, hk, ⟨h1, h2⟩, h3⟩ := j
      subst e
      have hlt := (List.getElem?_eq_some_iff.mp hd).1
      exact he d (List.mem_of_getElem? hd) k hk F H σ s h3 sl Q fun v F2 H2 l ⟨j2, e, pe, r⟩ => qq v F2 H2 l ⟨e, r, rfl, hlt, ⟨by rw [List.length_append, h1]; rfl, fun y hy => by
        rcases List.mem_append.mp hy with z | z
        · exact h2 y z
        · rw [List.mem_singleton.mp z]; exact pe⟩, j2⟩))
    fun v F H ⟨ds', acc, r, e, _, h1, h2⟩ => by
      subst e
      exact ⟨h2, _, ⟨acc, h1, rfl⟩, r⟩
end
/-! ### dicts written out -/
section
variable {K : PySem.W.Frag} {ρ : Ro}
theorem e_dnew : Ev K tDNewK ρ (.dict []) := fun F H σ s sl Q q p hp => q (.ref p) (upd F p (.dK [])) _ (Le.new s hp) (.dic upd_same rfl .nil)
theorem e_disp1 {x : Str} {i : Int} : Ev K (tDisp [(tC (.str x), tC (.int i))]) ρ (.dict [(.str x, .int i)]) := fun F H σ s sl Q q p hp => by
  refine ⟨upd_same, [(.inr x, .int i)], rfl, by show 1 ≤ 15; decide, ?_⟩
  rw [upd_upd]
  exact q (.ref p) (upd F p (.dK [(.inr x, .int i)])) _ (Le.new s hp) (.dic upd_same rfl (.cons (.int i) .nil))
end
/-! ### what is drawn in the place of the words -/
/-- an item that may be shown, an error's thing -/
def itD (d : PyData) : Prop := d.leavesShort 40 = true ∧ d.bulk ≤ 20 ∧ d.depth ≤ 2 ∧ d.showable = true ∧ okT d
theorem word_it {x : Str} (h : wordS x = true) : itD (.str x) := by
  have hk := word_ok h
  unfold wordS at h
  simp only [Bool.and_eq_true, decide_eq_true_eq] at h
  have hl : x.length ≤ 8 := by omega
  refine ⟨?_, by show x.cps.size ≤ 20; have : x.length = x.cps.size := rfl; omega, by show 0 ≤ 2; omega, rfl, fun y e => ?_⟩
  · unfold PyData.strOk at hk
    simp only [PyData.leavesShort, List.all_eq_true, decide_eq_true_eq]
    intro c hc
    have := Array.all_eq_true'.mp hk c (by simpa using hc)
    have h3 : c < 0x110000 := by simpa using this
    omega
  · cases e
    exact ⟨Nat.le_trans hl (by decide), hk⟩
def oddsD : List PyData := [.none, .int 0, .bool true, .str "", .str "abcdefghi", .str "A", .str "a b", .str "x1", .tuple [], .list [.str "a"], .dict [], .str "a\n", .int (10 ^ 30), .str "-", .tuple [.str "a", .str "b"]]
/-- what stands in the place of the words -/
def someV (v : PyData) : Prop := v.leavesShort 40 = true ∧ v.bulk ≤ 100 ∧ v.depth ≤ 3 ∧ v.showable = true ∧ okW v ∧ okI v ∧ ∀ t, dueW v = some t → itD t
theorem it_none : itD .none := ⟨by decide +kernel, by decide +kernel, by decide +kernel, by decide +kernel, fun x e => nomatch e⟩
theorem fb_mem : ∀ {ds : List PyData} {seen : List Str} {t : PyData}, firstBad seen ds = some t → t ∈ ds
  | [], _, _, h => by cases h
  | d :: ds, seen, t, h => by
    cases hw : wordD d with
    | false => rw [fb_no hw] at h; cases h; exact List.mem_cons_self
    | true =>
      obtain ⟨x, rfl, hx⟩ := word_str hw
      by_cases n : x ∈ seen
      · rw [fb_in n] at h; cases h; exact List.mem_cons_self
      · rw [fb_word hx n] at h
        exact List.mem_cons_of_mem _ (fb_mem h)
theorem its_leaf : ∀ {ds : List PyData}, (∀ d ∈ ds, itD d) → PyData.leavesShortAll 40 ds = true ∧ PyData.bulkAll ds ≤ 21 * ds.length ∧ PyData.depthAll ds ≤ 2 ∧ PyData.showableAll ds = true
  | [], _ => ⟨rfl, by decide, by decide, rfl⟩
  | d :: ds, h => by
    obtain ⟨a1, a2, a3, a4, _⟩ := h d List.mem_cons_self
    obtain ⟨b1, b2, b3, b4⟩ := its_leaf fun e he => h e (List.mem_cons_of_mem _ he)
    refine ⟨by simp only [PyData.leavesShortAll, a1, b1, Bool.and_self], ?_, ?_, by simp only [PyData.showableAll, a4, b4, Bool.and_self]⟩
    · simp only [PyData.bulkAll, List.length_cons]; omega
    · simp only [PyData.depthAll]; omega
theorem some_items {v : PyData} {ds : List PyData} (e : itemsD v = some ds) (h : ∀ d ∈ ds, itD d) (hl : ds.length ≤ 4) : someV v := by
  obtain ⟨a1, a2, a3, a4⟩ := its_leaf h
  have core : v.leavesShort 40 = true ∧ v.bulk ≤ 100 ∧ v.depth ≤ 3 ∧ v.showable = true := by
    cases v <;> cases e <;> exact ⟨by simpa only [PyData.leavesShort] using a1, by simp only [PyData.bulk]; omega, by simp only [PyData.depth]; omega, by simpa only [PyData.showable] using a4⟩
  refine ⟨core.1, core.2.1, core.2.2.1, core.2.2.2, fun es e2 x hx => ?_, fun es e2 d hd => ?_, fun t ht => ?_⟩
  · rw [e] at e2; cases e2; exact ((h _ hx).2.2.2.2 x rfl).1
  · rw [e] at e2; cases e2; exact (h d hd).2.2.2.2
  · by_cases n : 1 ≤ ds.length ∧ ds.length ≤ 3
    · rw [due_go e n] at ht
      exact h t (fb_mem ht)
    · rw [due_len e n] at ht
      cases ht
      exact it_none
theorem some_other {v : PyData} (e : itemsD v = none) (h1 : v.leavesShort 40 = true) (h2 : v.bulk ≤ 100) (h3 : v.depth ≤ 3) (h4 : v.showable = true) : someV v :=
  ⟨h1, h2, h3, h4, (fun ds z => by rw [e] at z; cases z), (fun ds z => by rw [e] at z; cases z), fun t ht => by rw [due_not e] at ht; cases ht; exact it_none⟩
theorem okT_of {d : PyData} (h : ∀ x, d = .str x → x.length ≤ sizeLine ∧ PyData.strOk x = true) : okT d := h
theorem odd_it : ∀ d ∈ oddsD, itD d := by
  intro d hd
  simp only [oddsD, List.mem_cons, List.not_mem_nil, or_false] at hd
  rcases hd with rfl | rfl | rfl | rfl | rfl | rfl | rfl | rfl | rfl | rfl | rfl | rfl | rfl | rfl | rfl <;>
    exact ⟨by decide +kernel, by decide +kernel, by decide +kernel, by decide +kernel, fun x e => by first | (cases e; exact ⟨by decide +kernel, by decide +kernel⟩) | cases e⟩
theorem odd_some : ∀ d ∈ oddsD, someV d := by
  intro d hd
  have ha : itD (.str "a") := word_it (by decide +kernel)
  have hb : itD (.str "b") := word_it (by decide +kernel)
  have hi := odd_it d hd
  simp only [oddsD, List.mem_cons, List.not_mem_nil, or_false] at hd
  rcases hd with rfl | rfl | rfl | rfl | rfl | rfl | rfl | rfl | rfl | rfl | rfl | rfl | rfl | rfl | rfl
  case inr.inr.inr.inr.inr.inr.inr.inr.inl => exact some_items rfl (by simp) (by decide)
  case inr.inr.inr.inr.inr.inr.inr.inr.inr.inl => exact some_items rfl (by simpa using ha) (by decide)
  case inr.inr.inr.inr.inr.inr.inr.inr.inr.inr.inr.inr.inr.inr => exact some_items rfl (by simpa using ⟨ha, hb⟩) (by decide)
  all_goals exact some_other rfl hi.1 (Nat.le_trans hi.2.1 (by decide)) (Nat.le_trans hi.2.2.1 (by decide)) hi.2.2.2.1
theorem some_shown {v : PyData} (h : someV v) : v.shown.length ≤ sizeLine := by
  have := PySem.PyData.shown_le_bulk 40 (by decide) v h.1
  have h2 := h.2.1
  have : v.shown.length ≤ 42 * 100 + 40 := by omega
  exact Nat.le_trans this (by decide)
theorem five_ok {v : PyData} (h : someV v) : (PyData.list [.list (dueW v).toList, .list (dueW v).toList, .list (dueW v).toList, .list (dueW v).toList, .list (dueW v).toList]).showable = true ∧ (PyData.list [.list (dueW v).toList, .list (dueW v).toList, .list (dueW v).toList, .list (dueW v).toList, .list (dueW v).toList]).shown.length ≤ sizeLine ∧ (PyData.list [.list (dueW v).toList, .list (dueW v).toList, .list (dueW v).toList, .list (dueW v).toList, .list (dueW v).toList]).depth ≤ 40 := by
  have key : ∀ d : PyData, d.leavesShort 40 = true → d.bulk ≤ 100 → d.depth ≤ 3 → d.showable = true → (PyData.list [d, d, d, d, d]).showable = true ∧ (PyData.list [d, d, d, d, d]).shown.length ≤ sizeLine ∧ (PyData.list [d, d, d, d, d]).depth ≤ 40 := fun d h1 h2 h3 h4 => by
    have hb : (PyData.list [d, d, d, d, d]).bulk ≤ 505 := by simp only [PyData.bulk, PyData.bulkAll]; omega
    have hs := PySem.PyData.shown_le_bulk 40 (by decide) (PyData.list [d, d, d, d, d]) (by simp only [PyData.leavesShort, PyData.leavesShortAll, h1, Bool.and_self])
    refine ⟨by simp only [PyData.showable, PyData.showableAll, h4, Bool.and_self], Nat.le_trans (show _ ≤ 42 * 505 + 40 by omega) (by decide), by simp only [PyData.depth, PyData.depthAll]; omega⟩
  cases e : dueW v with
  | none => exact key _ (by decide +kernel) (by decide +kernel) (by decide +kernel) (by decide +kernel)
  | some t =>
    have hi := h.2.2.2.2.2.2 t e
    obtain ⟨a1, a2, a3, a4⟩ := its_leaf (ds := [t]) (by simpa using hi)
    exact key _ (by simpa only [PyData.leavesShort, Option.toList] using a1) (by simp only [PyData.bulk, Option.toList]; simp only [List.length_singleton] at a2; omega) (by simp only [PyData.depth, Option.toList]; omega) (by simpa only [PyData.showable, Option.toList] using a4)
end LK

set_option Elab.async false
set_option linter.all false
set_option maxRecDepth 100000
set_option maxHeartbeats 8000000
/-! PD47o: the law. -/
namespace LK
open PySem PySem.Spec PyProof.Rows L2 LamX
section
variable {K : PySem.W.Frag} {ρ : Ro} {ta tk t : TA} {C CB : Addr} {f : Str} {S : Addr → Prop} {J J1 : JP} {E : XK}
theorem in_call {α : Type} {n : Nat} {pre : α → Hp → List V → Prop} {due : α → Option PyData} {post : α → Hp → V → Prop} {d0 : Option PyData} (h : EvA ta ρ (fun F vs => ∃ x, due x = d0 ∧ vs.length = n ∧ pre x F vs)) :
    ∀ F H σ, Sub F H → SlOk F σ ρ → ∀ (E : XK) (Q : VK), (id d0 = none → ∀ v F2 H2, Le F H F2 H2 → Q v H2) → (∀ d, id d0 = some d → EX K CB f F H d E) → tCall (spX K CB f n pre due post) [] E ta σ H Q := fun F H σ s sl E Q q1 q2 =>
  h F H σ s sl _ fun vs F1 H1 l1 ⟨x, ed, hl, hp⟩ => ⟨by rw [List.append_nil]; exact hl, x, F1, l1.s, by rw [List.append_nil]; exact hp, fun e v F2 H2 l _ => q1 (ed.symm.trans e) v F2 H2 (l1.trans l), fun d e => (q2 d (ed.symm.trans e)).later l1⟩
theorem in_callK {α : Type} {n : Nat} {pre : α → Hp → List V → Prop} {due : α → Option PyData} {post : α → Hp → V → Prop} {d0 : Option PyData} {R0 R1 : Hp → V → Prop} {te tv : TE} (m0 : ∀ {F F' : Hp} {v : V}, Sub F F' → R0 F v → R0 F' v) (h : EvR te ρ R0) (hk : EvR tv ρ R1) (hx : ∀ F a b, R0 F a → R1 F b → ∃ x, due x = d0 ∧ 2 = n ∧ pre x F [a, b]) :
    ∀ F H σ, Sub F H → SlOk F σ ρ → ∀ (E : XK) (Q : VK), (id d0 = none → ∀ v F2 H2, Le F H F2 H2 → Q v H2) → (∀ d, id d0 = some d → EX K CB f F H d E) → tCallK (spX K CB f n pre due post) two E (tCons te tNil) (tCons tv tNil) σ H Q := fun F H σ s sl E Q q1 q2 =>
  h F H σ s sl _ fun a F1 H1 l1 ra => hk F1 H1 σ l1.s (sl.mono l1.f) _ fun b F2 H2 l2 rb => by
    obtain ⟨x, ed, hl, hp⟩ := hx F2 a b (m0 l2.f ra) rb
    have l := l1.trans l2
    exact ⟨hl, x, F2, l.s, hp, fun e v F3 H3 l3 _ => q1 (ed.symm.trans e) v F3 H3 (l.trans l3), fun d e => (q2 d (ed.symm.trans e)).later l⟩
theorem es_makeX {α β : Type} {n : Nat} {pre : α → Hp → List V → Prop} {Pm : α → β → Prop} {mf : α → β → List (Str × MP)} {Px : α → Prop} (c : Cl J1) (h : EvSA S J t ρ (fun vs F H => J1 F H ∧ ∃ x, Px x ∧ vs.length + 1 = n ∧ pre x F vs)) :
    EvS S J (tMake C (spIX C n pre Pm mf) [] E t) ρ (fun v F H => J1 F H ∧ ∃ x, Px x ∧ (MP.x (Pm x) fun y => MP.o C (mf x y)).R F v) := fun F H σ s j sl Q q =>
  h F H σ s j sl _ fun vs F1 H1 l1 ⟨j1, x, px, hl, hp⟩ => fun p dx np nd ne => by
    have nF : F1 p = none := l1.s.none np
    have sub2 : Sub H1 (upd (upd H1 dx (.own p)) p (.ins C dx [])) := fun b o e => by
      rw [upd_ne (ne_of_none e np), upd_ne (ne_of_none e nd)]
      exact e
    rw [List.append_nil]
    refine ⟨hl, (x, p, dx), F1, l1.s.trans sub2, ⟨nF, [], upd_same, .nil⟩, ⟨vs, rfl, hp⟩, fun v F2 H2 l2 ⟨ev, y, py, h1, fs, h2, h3⟩ => ⟨ev, ?_⟩⟩
    have l3 : Le F1 H1 (upd F2 p (.ins C dx fs)) H2 := ⟨l2.f.trans (Sub.new h1), Le.freeze l2.s h2, fun b o e _ => l2.h b o (sub2 b o e) (ne_of_none e np), fun b o e nn => by
      rw [upd_ne (ne_of_none e np)]
      exact l2.n b o (sub2 b o e) nn, fun b o e => l2.g b o (sub2 b o e), fun z => (l2.t z).upd (by intro _ z; cases z)⟩
    exact q (.ref p) (upd F2 p (.ins C dx fs)) H2 (l1.trans l3.up) ⟨c _ _ _ _ l3 j1, x, px, y, py, p, dx, fs, rfl, upd_same, h3.mono (Sub.new h1)⟩
end
end LK
namespace LK
open PySem PySem.Spec PyProof.Rows L2
theorem dueL_eq (v : PyData) : dueL v = (dueW v).toList := by unfold dueL; cases dueW v <;> rfl
theorem okq : Ki.ok ⟨"q", .list [], [], .list [], []⟩ := ⟨by decide +kernel, rfl, ⟨.nil, by simp, by simp⟩, rfl, by simp, by show 0 ≤ 8; decide⟩
section
variable {K : PySem.W.Frag} {ρ : Ro} {ta : TA} {te tv tw : TE} {m1 m2 m3 : MP} {S : Addr → Prop} {J : JP} {u : TS} {Nx : Ro → JP} {R : V → JP} {d1 d2 : PyData} {i j : Nat}
theorem a_two (h1 : EvR te ρ m1.R) (h2 : EvR tv ρ m2.R) : EvA (tCons te (tCons tv tNil)) ρ (fun F vs => ∃ a b, vs = [a, b] ∧ m1.R F a ∧ m2.R F b) := fun F H σ s sl Q q =>
  h1 F H σ s sl _ fun a F1 H1 l1 ra => h2 F1 H1 σ l1.s (sl.mono l1.f) _ fun b F2 H2 l2 rb => q _ F2 H2 (l1.trans l2) ⟨a, b, rfl, m1.mono l2.f ra, rb⟩
theorem a_three (h1 : EvR te ρ m1.R) (h2 : EvR tv ρ m2.R) (h3 : EvR tw ρ m3.R) : EvA (tCons te (tCons tv (tCons tw tNil))) ρ (fun F vs => ∃ a b c, vs = [a, b, c] ∧ m1.R F a ∧ m2.R F b ∧ m3.R F c) := fun F H σ s sl Q q =>
  h1 F H σ s sl _ fun a F1 H1 l1 ra => h2 F1 H1 σ l1.s (sl.mono l1.f) _ fun b F2 H2 l2 rb => h3 F2 H2 σ l2.s (sl.mono (l1.f.trans l2.f)) _ fun c F3 H3 l3 rc => q _ F3 H3 ((l1.trans l2).trans l3) ⟨a, b, c, rfl, m1.mono (l2.f.trans l3.f) ra, m2.mono l3.f rb, rc⟩
theorem q_parD (h : EvAD K ta ρ [d1, d2]) (c : Cl J) (k : St S J u ((ρ.set i (some (MP.d K d1))).set j (some (MP.d K d2))) Nx R) : St S J (tSeq (tPar i j ta) u) ρ Nx R := fun F H σ s jj sl E hr hn =>
  h F H σ s sl _ fun vs F1 H1 l1 r1 => by
    cases r1 with
    | cons ra r2 =>
      cases r2 with
      | cons rb r3 =>
        cases r3
        exact ⟨_, _, rfl, k F1 H1 _ l1.s (c F H F1 H1 l1 jj) (((sl.mono l1.f).set (m := MP.d K d1) i ra).set (m := MP.d K d2) j rb) E (fun v F2 H2 l r => hr v F2 H2 (l1.up.trans l) r) fun ρ' σ' F2 H2 l r => hn ρ' σ' F2 H2 (l1.up.trans l) r⟩
end
/-- take(draw, m) > 0 -/
theorem sdb_takeP {K : PySem.W.Frag} {D G : Addr} {n i m : Nat} {ρ : Ro} {E : XK} (hi : ρ[i]? = some (some (MP.v (.ref D)))) (h0 : 0 < m) (hm : m ≤ 100000) (hn : n + 1 < 2 ^ 40) : EvSB (SDr D G) (DrAt K D G n) (tTest (tOp (rI0 fun i j => .bl (decide (j < i))) (tCall (spTake K) [] E (tCons (tVar i) (tCons (tC (.int (m : Nat))) tNil))) (tC (.int 0)))) ρ (fun _ F H => DrAt K D G (n + 1) F H) := fun F H σ s j sl Q q =>
  sd_take (m := m) hi e_int h0 hm hn F H σ s j sl _ fun v F2 H2 l ⟨j2, d, ⟨k, _, e⟩, rv⟩ => by
    subst e
    cases rv
    exact ⟨_, _, rfl, rfl, _, rfl, q _ F2 H2 l j2⟩
end LK
namespace K47
open PySem PySem.Spec PyProof.Rows L2 LK LamX
section
variable {P : Program} {w : World} {h : Heap} {K : PySem.W.Frag} {mg : Str → Option Value} {base : Heap}
/-- the law's promise: from a script and an empty table of its own code object -/
def spLaw (K : PySem.W.Frag) (PT : Addr) : Sp := fun vs H Q _ => ∃ (ns : List Int) (a : Addr), vs = [.ref a] ∧ SqL K H a (ns.map V.int) ∧ ns.length ≤ 63 ∧ H PT = some (.tbl #[]) ∧ ∀ H', Q (.bl true) H'
abbrev mpK (K : PySem.W.Frag) : MP := MP.x (fun y : Kd => y.ok) fun y => y.mp K
abbrev qlOf (x : Str) : Str := x ++ ".<locals>." ++ "<lambda>"
abbrev qL : Str := qlOf "law"
def ro (K : PySem.W.Frag) (D : Addr) : Ro := [none, some (MP.v (.ref D)), none, none, none, none, none, none, none, none, none]
theorem ok_law (T : Tx w h K mg) {fd : FuncData} {CO PT : Addr} (F : FunD K "law" "law" (defArgs st_law) (defBody st_law) (defScope st_law) [] [] (He.ga K "law") fd) (hco : fd.code = .ref CO) (TB : TabB base mg CO PT) : LamX.FnOkG P w K mg base CX0 13 (He.ga K "law") fd ["_law_script"] (spLaw K PT) := by
  obtain ⟨fdR, FR⟩ := T.d_law_refusal
  have BR : L2.Binds K fdR ["_law_work"] [] := FR.bindsN fun _ _ _ _ _ _ us hl => match us, hl with | [_], _ => rfl
  refine LK.fnOkG F sc_law (fun vs H Q E h => by obtain ⟨ns, a, rfl, _⟩ := h; rfl) fun cdv A outer s H vs Q E hc hG hr h => ?_
  have hcode : cdv = .ref CO := hc.symm.trans hco
  have hqL : (cxOf CX0 P w K mg base nm_law "law" (defScope st_law) (He.ga K "law") cdv A outer s H E).env.qual ++ "<lambda>" = qL := rfl
  refine ⟨_, (pss_cons (ps_set (i := 1) sc_law.nd rfl (.inr rfl) (LK.pe_fn (ok_law_begun T) (hr.mono (by decide)) pass0 (pa_cons (pv 0) pa_nil)))
    (pss_cons (ps_for (passes_of rfl) rfl (pi_range1 rfl T.f_range (pa_cons (pe_op op_add pe_int (pe_callB (call_min2 rfl) (by rfl) T.f_min boot_min (pa_cons (pe_callB (kk_len (K := K) rfl) (by rfl) T.f_len boot_len (pa_cons (pv 0) pa_nil)) (pa_cons pe_int pa_nil)))) pa_nil)) (pg_name (i := 2) sc_law.nd rfl (.inl rfl)) (pss_cons (ps_set (i := 3) sc_law.nd rfl (.inr rfl) (pe_lst (pa_cons pe_non (pa_cons pe_int (pa_cons pe_bl (pa_cons pe_str (pa_cons pe_str (pa_cons pe_str (pa_cons pe_str (pa_cons pe_str (pa_cons (pe_tup pa_nil) (pa_cons (pe_lst (pa_cons pe_str pa_nil)) (pa_cons pe_dnewK (pa_cons pe_str (pa_cons (pe_op op_pow pe_int pe_int) (pa_cons pe_str (pa_cons (pe_tup (pa_cons pe_str (pa_cons pe_str pa_nil))) pa_nil)))))))))))))))))
    (pss_cons (ps_set (i := 4) sc_law.nd rfl (.inr rfl) (LK.pe_fn (ok_law_words T) (hr.mono (by decide)) pass0 (pa_cons (pv 1) (pa_cons pe_int pa_nil))))
    (pss_cons (ps_set (i := 5) sc_law.nd rfl (.inr rfl) (pe_lc (own := [("_law_word_here", 10)]) rfl sc_law.nd (kk_pi_list (K := K) rfl (pe_op (kk_catL (K := K) rfl) (pv 4) (pe_slice (kk_slL (K := K) rfl) (pv 4) po_none (po_some pe_int)))) (blkOk_by (N := ["_law_script", "_law_draw", "_law_turn", "_law_odd", "_law_pool", "_law_some", "_law_made", "_law_due_here", "_law_shown", "_law_found", "_law_word_here"]) (sc := defScope st_law) (by decide +kernel)) (fun _ _ _ _ _ => (pg_name (i := 10) sc_law.nd rfl (.inl rfl))) (fun _ _ _ _ _ => pts_nil) (fun _ _ _ _ _ => (LK.pe_fn (ok_law_pick T) (hr.mono (by decide)) pass0 (pa_cons (pv 1) (pa_cons (pe_lst (pa_cons (LK.pe_fn (ok_law_pick T) (hr.mono (by decide)) pass0 (pa_cons (pv 1) (pa_cons (pv 4) pa_nil))) (pa_cons (LK.pe_fn (ok_law_pick T) (hr.mono (by decide)) pass0 (pa_cons (pv 1) (pa_cons (pv 4) pa_nil))) (pa_cons (pv 10) pa_nil)))) pa_nil))))))
    (pss_cons (ps_set (i := 5) sc_law.nd rfl (.inr rfl) (pe_slice (kk_slL (K := K) rfl) (pe_lc (own := [("_law_word_here", 10)]) rfl sc_law.nd (kk_pi_seq (K := K) rfl (pv 5)) (blkOk_by (N := ["_law_script", "_law_draw", "_law_turn", "_law_odd", "_law_pool", "_law_some", "_law_made", "_law_due_here", "_law_shown", "_law_found", "_law_word_here"]) (sc := defScope st_law) (by decide +kernel)) (fun _ _ _ _ _ => (pg_name (i := 10) sc_law.nd rfl (.inl rfl))) (fun _ _ _ _ _ => pts_nil) (fun _ _ _ _ _ => (pe_ifExp (pt_cmpR op_gt (LK.pe_fn (ok_law_take T) (hr.mono (by decide)) pass0 (pa_cons (pv 1) (pa_cons pe_int pa_nil))) pe_int (nomark _)) (pv 10) (LK.pe_fn (ok_law_pick T) (hr.mono (by decide)) pass0 (pa_cons (pv 1) (pa_cons (pv 3) pa_nil)))))) po_none (po_some (LK.pe_fn (ok_law_take T) (hr.mono (by decide)) pass0 (pa_cons (pv 1) (pa_cons pe_int pa_nil))))))
    (pss_cons (ps_set (i := 5) sc_law.nd rfl (.inr rfl) (LK.pe_fn (ok_law_pick T) (hr.mono (by decide)) pass0 (pa_cons (pv 1) (pa_cons (pe_lst (pa_cons (pv 5) (pa_cons (pv 5) (pa_cons (pv 5) (pa_cons (pe_callTy (kk_tupOf (K := K) rfl) (by rfl) T.f_tuple boot_tuple (pa_cons (pv 5) pa_nil)) (pa_cons (LK.pe_fn (ok_law_pick T) (hr.mono (by decide)) pass0 (pa_cons (pv 1) (pa_cons (pv 3) pa_nil))) (pa_cons pe_str (pa_cons (pe_disp (pps_cons pe_str pe_int pps_nil) rfl rfl (by simp) (by decide)) pa_nil)))))))) pa_nil))))
    (pss_cons (ps_set (i := 6) sc_law.nd rfl (.inr rfl) (pe_new T.mk_Keeper (ok_Keeper_init T) (hr.mono (by decide)) rfl T.g_Keeper pass0 (pa_cons pe_str (pa_cons (pv 4) (pa_cons (pe_lst (pa_cons (LK.pe_fn (ok_law_any_rule T) (hr.mono (by decide)) pass0 (pa_cons (pv 1) (pa_cons (pv 4) pa_nil))) pa_nil)) pa_nil)))))
    (pss_cons (ps_par (by rfl) sc_law.nd (i := 7) (j := 8) rfl rfl (by decide) rfl rfl (pa_cons (LK.pe_fn (ok_law_due T) (hr.mono (by decide)) pass0 (pa_cons (pv 5) pa_nil)) (pa_cons (LK.pe_repr T.modK hG hr (by rfl) T.f_repr (pv 5)) pa_nil)) (by rfl))
    (pss_cons (ps_set (i := 9) sc_law.nd rfl (.inl rfl) (pe_lst (pa_cons (LK.pe_lamP (k := 7) (P := PT) (c := CO) (q := qL) hqL (TT := TTref K (He.ga K "KeeperError") (He.ga K "BadWord") "thing") rfl T.g_law_refusal FR BR sc_law_refusal rfl (.inl rfl) (fun _ => refusal_gives T) TB hcode (hr.mono (by decide)) (lamS_by (sc := defScope st_law) (by decide +kernel)) rfl (fun _ _ _ _ _ => rfl) (fun A outer s H E f c hr => (LK.pe_fn (ok_all_views T) (hr.mono (by decide)) (passes_call (takes_of rfl rfl rfl rfl) (fun _ _ _ _ h => h)) (pa_cons (pv 5) pa_nil)))) pa_nil)))
    (pss_cons (ps_expr (kk_bm (K := K) rfl PySem.F.plainAttrs_list PySem.F.slot_list_append PySem.F.type_list_append mt_append (pv 9) (pa_cons (LK.pe_lamP (k := 7) (P := PT) (c := CO) (q := qL) hqL (TT := TTref K (He.ga K "KeeperError") (He.ga K "BadWord") "thing") rfl T.g_law_refusal FR BR sc_law_refusal rfl (.inl rfl) (fun _ => refusal_gives T) TB hcode (hr.mono (by decide)) (lamS_by (sc := defScope st_law) (by decide +kernel)) rfl (fun _ _ _ _ _ => rfl) (fun A outer s H E f c hr => (LK.pe_fn (ok_table_of T) (hr.mono (by decide)) (passes_call (takes_of rfl rfl rfl rfl) (fun _ _ _ _ h => h)) (pa_cons (pv 6) (pa_cons (pv 5) pa_nil))))) pa_nil)))
    (pss_cons (ps_expr (kk_bm (K := K) rfl PySem.F.plainAttrs_list PySem.F.slot_list_append PySem.F.type_list_append mt_append (pv 9) (pa_cons (LK.pe_lamP (k := 7) (P := PT) (c := CO) (q := qL) hqL (TT := TTref K (He.ga K "KeeperError") (He.ga K "BadWord") "thing") rfl T.g_law_refusal FR BR sc_law_refusal rfl (.inl rfl) (fun _ => refusal_gives T) TB hcode (hr.mono (by decide)) (lamS_by (sc := defScope st_law) (by decide +kernel)) rfl (fun _ _ _ _ _ => rfl) (fun A outer s H E f c hr => (LK.pe_fn (ok_parted T) (hr.mono (by decide)) (passes_call (takes_of rfl rfl rfl rfl) (fun _ _ _ _ h => h)) (pa_cons (pv 6) (pa_cons (pe_new T.mk_Keeper (ok_Keeper_init T) (hr.mono (by decide)) rfl T.g_Keeper pass0 (pa_cons pe_str (pa_cons (pe_lst pa_nil) (pa_cons (pe_lst pa_nil) pa_nil)))) (pa_cons (pv 5) pa_nil)))))) pa_nil)))
    (pss_cons (ps_expr (kk_bm (K := K) rfl PySem.F.plainAttrs_list PySem.F.slot_list_append PySem.F.type_list_append mt_append (pv 9) (pa_cons (LK.pe_lamP (k := 7) (P := PT) (c := CO) (q := qL) hqL (TT := TTref K (He.ga K "KeeperError") (He.ga K "BadWord") "thing") rfl T.g_law_refusal FR BR sc_law_refusal rfl (.inl rfl) (fun _ => refusal_gives T) TB hcode (hr.mono (by decide)) (lamS_by (sc := defScope st_law) (by decide +kernel)) rfl (fun _ _ _ _ _ => rfl) (fun A outer s H E f c hr => (LK.pe_fnK (ok_idle T) (hr.mono (by decide)) (passes_call (takes_of rfl rfl rfl rfl) (fun _ _ _ _ h => h)) (pa_cons (pv 6) pa_nil) (pk_cons (pv 5) pk_nil)))) pa_nil)))
    (pss_cons (ps_expr (kk_bm (K := K) rfl PySem.F.plainAttrs_list PySem.F.slot_list_append PySem.F.type_list_append mt_append (pv 9) (pa_cons (LK.pe_lamP (k := 7) (P := PT) (c := CO) (q := qL) hqL (TT := TTref K (He.ga K "KeeperError") (He.ga K "BadWord") "thing") rfl T.g_law_refusal FR BR sc_law_refusal rfl (.inl rfl) (fun _ => refusal_gives T) TB hcode (hr.mono (by decide)) (lamS_by (sc := defScope st_law) (by decide +kernel)) rfl (fun _ _ _ _ _ => rfl) (fun A outer s H E f c hr => (LK.pe_fn (ok_trimmed T) (hr.mono (by decide)) (passes_call (takes_of rfl rfl rfl rfl) (fun _ _ _ _ h => h)) (pa_cons (pv 6) (pa_cons (pv 5) pa_nil))))) pa_nil)))
    (pss_one (ps_if (PW.pt (pw_or (pt_cmpR op_ne (LK.pe_repr T.modK hG hr (by rfl) T.f_repr (pv 9)) (LK.pe_repr T.modK hG hr (by rfl) T.f_repr (pe_op op_rep (pe_lst (pa_cons (pv 7) pa_nil)) pe_int)) (nomark _)) (pw_or1 (pt_cmpR op_ne (LK.pe_repr T.modK hG hr (by rfl) T.f_repr (pv 5)) (pv 8) (nomark _))))) (pss_one (ps_ret pe_bl)) pss_nil)))))))))))))))
    (pss_one (ps_ret pe_bl)))), ?_⟩
  obtain ⟨ns, a, rfl, hs, hl, hP, q⟩ := h
  have hz : ns.length < sizeLine := Nat.lt_of_le_of_lt hl (by decide)
  have sF : Sub (fun b => if b = PT then none else H b) H := fun b o e => by
    by_cases z : b = PT
    · simp [z] at e
    · simpa [z] using e
  have fP : (fun b => if b = PT then none else H b) PT = none := if_pos rfl
  have up : ∀ {o}, (∀ ps, o ≠ .tbl ps) → H a = some o → (fun b => if b = PT then none else H b) a = some o := fun {o} no e => by
    have ne : a ≠ PT := fun z => by rw [z, hP] at e; exact no _ (Option.some.inj e).symm
    show (if a = PT then none else H a) = some o
    rw [if_neg ne]; exact e
  have hd : Dat K (fun b => if b = PT then none else H b) (.list (ns.map PyData.int)) (.ref a) := .lst (by
    rcases hs with hs | hs
    · refine .inl ?_
      rcases hs with hs | ⟨o, hs⟩
      · exact .inl (up (fun _ z => nomatch z) hs)
      · exact .inr ⟨o, up (fun _ z => nomatch z) hs⟩
    · exact .inr hs) (DatA.ofInts ns)
  refine st_app (ρ := st0 nm_law [MP.d K (.list (ns.map PyData.int))]) (S := SAll) (J := fun F H => TabS H PT qL ∧ F PT = none) (R := fun v F H => v = .bl true) ?_ sF ⟨TabS.nil hP, fP⟩ (slok_data (.cons hd .nil)) (fun v F2 H2 l r => by rw [r]; exact q H2)
  refine q_asgS (α := Addr × Addr) (m := fun p => MP.v (.ref p.1)) (G := fun p => JL K p.1 p.2 PT qL 0 none) (R' := fun v F H => ∃ p : Addr × Addr, v = .ref p.1 ∧ JL K p.1 p.2 PT qL 0 none F H) (fun F H σ s j sl Q q => ?_) (fun v F H ⟨p, e, j⟩ => ⟨p, e, j⟩) fun ⟨D, G⟩ => ?_
  · refine e_dv (K := K) (i := 0) (d := .list (ns.map PyData.int)) rfl F H σ s sl _ fun v F1 H1 l1 r1 => ⟨ns, v, F1, rfl, l1.s, r1, by omega, fun D G F2 H2 l nD nG dr => q (.ref D) F2 H2 (l1.trans l).up ⟨(D, G), rfl, dr, ⟨j.1.ext (Le.sub (l1.trans l)), ?_⟩, fun p hp => nomatch hp⟩⟩
    obtain ⟨⟨ps, z, _⟩, c⟩ := j
    exact (l1.trans l).n PT _ z c
  have hN : ∃ N : Nat, N ≤ 18 ∧ (6 : Int) + (if (12 : Int) < (ns.length : Int) then 12 else (ns.length : Int)) = N := by
    by_cases e : (12 : Int) < (ns.length : Int)
    · exact ⟨18, by omega, by rw [if_pos e]; rfl⟩
    · exact ⟨6 + ns.length, by omega, by rw [if_neg e]; omega⟩
  obtain ⟨N, hN18, hN⟩ := hN
  refine q_for (K := K) (ns := [2]) (ds := rngD 0 N) (up := fun d ρ => ρ.set 2 (some (MP.d K d))) (ρL := ro K D) ?_ cl_JL (fun d _ => gt_name) (fun i => JL K D G PT qL (i * 200) none) (by repeat (first | exact WeakL.nil | refine WeakL.same ?_ | refine WeakL.drop ?_)) (fun F H j => by rw [Nat.zero_mul]; exact j) (fun i => cl_JL) (fun i d' hd' => ?_) ?_
  · refine src_rng1 (n := (N : Int)) (a_cons ?_ a_nil) (by omega) (by omega)
    rw [← hN]
    refine e_I0 (g := fun i j => i + j) e_int (e_cb (Rs := fun F vs => DatA K F [.int ns.length, .int 12] vs) (a_cons ((e_lenL (e_dv (i := 0) (d := .list (ns.map PyData.int)))).is (by rw [List.length_map])) (a_cons e_int a_nil)) fun F H vs s r Q q => ?_)
    cases r with
    | cons r1 r2 =>
      cases r2 with
      | cons r2 r3 =>
        cases r1; cases r2; cases r3
        exact ⟨_, _, rfl, q _ F H (Fr.refl s) (.int _)⟩
  · have hi : i < 18 := by
      have := (List.getElem?_eq_some_iff.mp hd').1
      rw [rngD_len] at this
      omega
    refine q_asgD (K := K) (d := .list oddsD) (e_lst (a_cons e_non (a_cons e_int (a_cons e_bl (a_cons e_str (a_cons e_str (a_cons e_str (a_cons e_str (a_cons e_str (a_cons (e_tup a_nil) (a_cons (e_lst (a_cons e_str a_nil)) (a_cons e_dnew (a_cons e_str (a_cons ((e_I (C := CPow) (g := fun i j => i ^ j.toNat) e_int e_int ⟨by decide, by decide, by decide⟩).is (by rfl)) (a_cons e_str (a_cons (e_tup (a_cons e_str (a_cons e_str a_nil)) (by show 2 ≤ sizeLine; decide)) a_nil))))))))))))))) (by show 15 ≤ sizeLine; decide)) cl_JL ?_
    refine q_asgE (K := K) (J1 := JL K D G PT qL (i * 200 + 30) none) (P := fun d => ∃ xs : List Str, wantsS xs ∧ xs.length = 3 ∧ d = .list (xs.map PyData.str)) (lift_dr (sd_draw (Pb := fun b => b = [.int 3]) rfl (da_of (a_cons e_int a_nil) cl_dr) (by omega) (fun b e => ⟨e, by rw [e]; rfl⟩) fun b d e p => p)) fun d hd => ?_
    obtain ⟨xs, hw, hx3, rfl⟩ := hd
    have hne : xs.map PyData.str ≠ [] := fun z => by have := congrArg List.length z; rw [List.length_map, hx3] at this; cases this
    have hxl : (xs.map PyData.str).length = 3 := by rw [List.length_map, hx3]
    have htk : (xs.map PyData.str).take 1 ⊆ xs.map PyData.str := fun e he => List.mem_of_mem_take he
    refine q_asgE (K := K) (J1 := JL K D G PT qL (i * 200 + 30 + 3 * 4) none) (P := fun d => ∃ acc : List PyData, (acc.length = 4 ∧ ∀ e ∈ acc, e ∈ xs.map PyData.str) ∧ d = .list acc) (lift_dr ?_) fun d hd => ?_
    · have h4 : (xs.map PyData.str ++ (xs.map PyData.str).take 1).length = 4 := by rw [List.length_append, List.length_take, hxl]; rfl
      refine EvD.to (J1 := DrAt K D G (i * 200 + 30 + 3 * (xs.map PyData.str ++ (xs.map PyData.str).take 1).length)) (sd_lcE (c := 3) (ns := [10]) (up := fun d ρ => ρ.set 10 (some (MP.d K d))) (Pe := fun e => e ∈ xs.map PyData.str) (src_list (Ev.is (e_catL (e_dv (i := 4) (d := .list (xs.map PyData.str))) (e_slL (e_dv (i := 4) (d := .list (xs.map PyData.str))) p_none (p_some (K := K) (i := ((1 : Nat) : Int)) e_int)) (by rw [cut_to', ← List.length_append, h4]; decide)) (by rw [cut_to']))) (fun d => gt_name) (fun _ h => h) (by rw [h4]; decide) (fun d hd k hk => ?_)) (fun F H j => by rw [h4] at j; exact j) (fun d ⟨acc, ⟨h1, h2⟩, e⟩ => ⟨acc, ⟨h1.trans h4, h2⟩, e⟩)
      have hdx : d ∈ xs.map PyData.str := (List.mem_append.mp hd).elim id fun z => htk z
      rw [h4] at hk
      refine EvD.to (J1 := DrAt K D G (i * 200 + 30 + 3 * k + 2 + 1)) (sd_pickE (n2 := i * 200 + 30 + 3 * k + 2) (Pl := fun ds => ds ≠ [] ∧ ds.length ≤ 3 ∧ ∀ e ∈ ds, e ∈ xs.map PyData.str) (P := fun e => e ∈ xs.map PyData.str) rfl (EvD.to (J1 := DrAt K D G (i * 200 + 30 + 3 * k + 2)) (sd_lst (da_cons (J1 := DrAt K D G (i * 200 + 30 + 3 * k + 1)) (P := fun e => e ∈ xs.map PyData.str) (sd_pick rfl (e_dv (i := 4) (d := .list (xs.map PyData.str))) rfl hne (by omega) (by omega)) (da_cons (J1 := DrAt K D G (i * 200 + 30 + 3 * k + 2)) (P := fun e => e ∈ xs.map PyData.str) (sd_pick rfl (e_dv (i := 4) (d := .list (xs.map PyData.str))) rfl hne (by omega) (by omega)) (da_cons (sd_of (e_dv (i := 10) (d := d)) cl_dr) da_nil))) cl_dr ?_) (fun F H j => j) ?_) (fun ds p => ⟨p.1, Nat.le_trans p.2.1 (by decide)⟩) (by omega) (fun ds p => p.2.2)) (fun F H j => j.le (by omega)) fun e he => he
      · rintro ds ⟨d1, r1, _, ⟨d2, r2, _, ⟨d3, r3, _, rfl, rfl⟩, rfl⟩, rfl⟩
        show 3 ≤ sizeLine
        decide
      · rintro e ⟨ds, ⟨d1, r1, h1, ⟨d2, r2, h2, ⟨d3, r3, rfl, rfl, rfl⟩, rfl⟩, rfl⟩, rfl⟩
        exact ⟨_, ⟨by simp, (by show 3 ≤ 3; decide), fun e he => by
          simp only [List.mem_cons, List.not_mem_nil, or_false] at he
          rcases he with rfl | rfl | rfl
          · exact h1
          · exact h2
          · exact hdx⟩, rfl⟩
    obtain ⟨acc, ⟨ha4, hax⟩, rfl⟩ := hd
    have xit : ∀ e ∈ xs.map PyData.str, itD e := fun e he => by
      obtain ⟨x, hx, rfl⟩ := List.mem_map.mp he
      exact word_it (hw.2.1 x hx)
    refine q_asgE (K := K) (J1 := JL K D G PT qL (i * 200 + 51) none) (P := fun d => ∃ (acc : List PyData) (k : Nat), (acc.length = 4 ∧ ∀ e ∈ acc, itD e) ∧ k < 5 ∧ d = .list (acc.take k)) (lift_dr ?_) fun d hd => ?_
    · refine sd_slTo (J1 := DrAt K D G (i * 200 + 50)) (Pl := fun acc => acc.length = 4 ∧ ∀ e ∈ acc, itD e) (Pk := fun k => k < 5) ?_ (sd_take (m := 5) rfl e_int (by decide) (by decide) (by omega)) cl_dr
      refine EvD.to (J1 := DrAt K D G (i * 200 + 30 + 3 * 4 + 2 * acc.length)) (sd_lcE (c := 2) (ns := [10]) (up := fun d ρ => ρ.set 10 (some (MP.d K d))) (Pe := itD) (src_seq (e_dv (i := 5) (d := .list acc)) rfl) (fun d => gt_name) (fun _ h => h) (by rw [ha4]; decide) (fun d hd k hk => ?_)) (fun F H j => j.le (by omega)) (fun d ⟨ac, ⟨h1, h2⟩, e⟩ => ⟨ac, ⟨h1.trans ha4, h2⟩, e⟩)
      rw [ha4] at hk
      refine sd_if (G := fun _ => DrAt K D G (i * 200 + 30 + 3 * 4 + 2 * k + 1)) (sdb_takeP (m := 6) rfl (by decide) (by decide) (by omega)) ?_ ?_
      · exact EvD.to (J1 := DrAt K D G (i * 200 + 30 + 3 * 4 + 2 * k + 1)) (sd_of (e_dv (i := 10) (d := d)) cl_dr) (fun F H j => j.le (by omega)) fun e he => by rw [he]; exact xit d (hax d hd)
      · exact EvD.to (J1 := DrAt K D G (i * 200 + 30 + 3 * 4 + 2 * k + 1 + 1)) (sd_pick (d := .list oddsD) rfl (e_dv (i := 3) (d := .list oddsD)) rfl (by simp [oddsD]) (by decide) (by omega)) (fun F H j => j.le (by omega)) fun e he => odd_it e he
    obtain ⟨acc2, k2, ⟨hb4, hbx⟩, hk2, rfl⟩ := hd
    have hbt : ∀ e ∈ acc2.take k2, itD e := fun e he => hbx e (List.mem_of_mem_take he)
    have hbl : (acc2.take k2).length ≤ 4 := by rw [List.length_take]; omega
    refine q_asgE (K := K) (J1 := JL K D G PT qL (i * 200 + 53) none) (P := someV) (lift_dr ?_) fun v hv => ?_
    · refine sd_pickE (n2 := i * 200 + 52) (Pl := fun ds => ds ≠ [] ∧ ds.length ≤ 7 ∧ ∀ e ∈ ds, someV e) rfl (EvD.to (J1 := DrAt K D G (i * 200 + 52)) (sd_lst (da_cons (sd_of (e_dv (i := 5) (d := .list (acc2.take k2))) cl_dr) (da_cons (sd_of (e_dv (i := 5) (d := .list (acc2.take k2))) cl_dr) (da_cons (sd_of (e_dv (i := 5) (d := .list (acc2.take k2))) cl_dr) (da_cons (sd_of (e_tupOf (e_dv (i := 5) (d := .list (acc2.take k2))) rfl) cl_dr) (da_cons (J1 := DrAt K D G (i * 200 + 52)) (P := fun e => e ∈ oddsD) (sd_pick (n := i * 200 + 51) (d := .list oddsD) rfl (e_dv (i := 3) (d := .list oddsD)) rfl (by simp [oddsD]) (by decide) (by omega)) (da_cons (sd_of e_str cl_dr) (da_cons (sd_of e_disp1 cl_dr) da_nil))))))) cl_dr ?_) (fun F H j => j) ?_) (fun ds p => ⟨p.1, Nat.le_trans p.2.1 (by decide)⟩) (by omega) (fun ds p => p.2.2)
      · rintro ds ⟨d1, r1, _, ⟨d2, r2, _, ⟨d3, r3, _, ⟨d4, r4, _, ⟨d5, r5, _, ⟨d6, r6, _, ⟨d7, r7, _, rfl, rfl⟩, rfl⟩, rfl⟩, rfl⟩, rfl⟩, rfl⟩, rfl⟩
        show 7 ≤ sizeLine
        decide
      · rintro e ⟨ds, ⟨d1, r1, rfl, ⟨d2, r2, rfl, ⟨d3, r3, rfl, ⟨d4, r4, rfl, ⟨d5, r5, h5, ⟨d6, r6, rfl, ⟨d7, r7, rfl, rfl, rfl⟩, rfl⟩, rfl⟩, rfl⟩, rfl⟩, rfl⟩, rfl⟩, rfl⟩
        have s1 : someV (.list (acc2.take k2)) := some_items rfl hbt hbl
        have s2 : someV (.tuple (acc2.take k2)) := some_items rfl hbt hbl
        have s3 : someV (.str "ab") := some_other rfl (by decide +kernel) (by decide +kernel) (by decide +kernel) (by decide +kernel)
        have s4 : someV (.dict [(.str "a", .int 1)]) := some_other rfl (by decide +kernel) (by decide +kernel) (by decide +kernel) (by decide +kernel)
        exact ⟨_, ⟨by simp, (by show 7 ≤ 7; decide), by simp [s1, s2, s3, s4, odd_some d5 h5]⟩, rfl⟩
    have hL := dueL_eq v
    refine q_asgS (α := Unit) (m := fun _ => mpK K) (G := fun _ => JL K D G PT qL (i * 200 + 75) none) (es_makeX (Px := fun x : Ki => x.ok) cl_JL (J1 := JL K D G PT qL (i * 200 + 75) none) (fun F H σ s j sl Q q => ?_)) (fun v F H ⟨j, x, px, y, py, r⟩ => ⟨(), ⟨y, py.2.1, r⟩, j⟩) fun _ => ?_
    · refine da_cons (J1 := JL K D G PT qL (i * 200 + 53) none) (sd_of (e_str (x := "k")) cl_JL) (da_cons (J1 := JL K D G PT qL (i * 200 + 53) none) (sd_of (e_dv (i := 4) (d := .list (xs.map PyData.str))) cl_JL) (da_cons (J1 := JL K D G PT qL (i * 200 + 75) none) (sd_lst (da_cons (J1 := JL K D G PT qL (i * 200 + 75) none) (P := ruleD) (lift_dr (sd_draw (n := i * 200 + 53) (c := 22) (Pb := fun b => b = [.list (xs.map PyData.str)]) rfl (da_of (a_cons (e_dv (i := 4) (d := .list (xs.map PyData.str))) a_nil) cl_dr) (by omega) (fun b e => ⟨⟨xs, e, hw.2.1, (fun z => by rw [z] at hx3; cases hx3), by omega⟩, by rw [e]; rfl⟩) fun b d e p => p)) da_nil) cl_JL (by rintro ds ⟨d1, r1, _, rfl, rfl⟩; show 1 ≤ sizeLine; decide)) da_nil)) F H σ s j sl Q fun vs F2 H2 l ⟨j2, ds, ⟨d1, r1, e1, ⟨d2, r2, e2, ⟨d3, r3, ⟨es, ⟨d4, r4, h4, e4, e5⟩, e6⟩, e7, e8⟩, e9⟩, e10⟩, r⟩ => ?_
      subst e1 e2 e4 e5 e6 e7 e8 e9 e10
      have ok : Ki.ok ⟨"k", .list (xs.map PyData.str), xs, .list [d4], [d4]⟩ := ⟨(by decide +kernel : wordS "k" = true), rfl, hw, rfl, by simpa using h4, by show 1 ≤ 8; decide⟩
      exact q vs F2 H2 l ⟨j2, _, ok, by rw [← r.length]; rfl, ok, r⟩
    refine q_parD (d1 := .list (dueL v)) (d2 := .str v.shown) (a_cons (e_call (a_cons (e_dv (i := 5) (d := v)) a_nil) ⟨v, rfl, hv.2.2.2.2.2.1, rfl⟩) (a_cons (e_repr (e_dv (i := 5) (d := v)) hv.2.2.2.1 (some_shown hv) (by have := hv.2.2.1; omega)) a_nil)) cl_JL ?_
    have hx := T.x_BadWord_KeeperError
    have okw := hv.2.2.2.2.1
    refine q_found (P := fun e => e = .list (dueW v).toList) ?_ fun L d hd => ?_
    · refine lift_P (es_lam (due := id) (dueW v) hx ?_)
      refine in_call fun F H σ s sl Q q => ?_
      exact a_cons (e_dv (i := 5) (d := v)) a_nil F H σ s sl Q fun vs F2 H2 l r => q vs F2 H2 l ⟨v, rfl, by rw [← r.length]; rfl, okw, r⟩
    subst hd
    refine q_found2 rfl (P := fun e => e = .list (dueW v).toList) ?_ (by show 1 < sizeLine; decide) fun d hd => ?_
    · refine lift_P (es_lam (due := id) (dueW v) hx ?_)
      refine in_call fun F H σ s sl Q q => ?_
      exact a_two (m1 := mpK K) (m2 := MP.d K v) (e_var rfl) (e_var rfl) F H σ s sl Q fun vs F2 H2 l ⟨a, b, e, ⟨y, oy, ry⟩, rb⟩ => q vs F2 H2 l ⟨(y, v), rfl, by rw [e]; rfl, oy, okw, a, b, e, ry, rb⟩
    subst hd
    refine q_found2 rfl (P := fun e => e = .list (dueW v).toList) ?_ (by show 2 < sizeLine; decide) fun d hd => ?_
    · refine lift_P (es_lam (due := id) (dueW v) hx ?_)
      refine in_call fun F H σ s sl Q q => ?_
      refine a_three (m1 := mpK K) (m2 := mpK K) (m3 := MP.d K v) (e_var rfl) ?_ (e_var rfl) F H σ s sl Q fun vs F2 H2 l ⟨a, b, c, e, ⟨y, oy, ry⟩, ⟨z, oz, rz⟩, rc⟩ => q vs F2 H2 l ⟨(y, z, v), rfl, by rw [e]; rfl, oy, oz, okw, a, b, c, e, ry, rz, rc⟩
      refine EvR.imp (e_makeX (α := Ki) ⟨"q", .list [], [], .list [], []⟩ fun F H σ s sl Q q => ?_) fun F v ⟨y, py, r⟩ => ⟨y, py.2.1, r⟩
      exact a_cons e_str (a_cons (e_lst a_nil) (a_cons (e_lst a_nil) a_nil)) F H σ s sl Q fun vs F2 H2 l r => q vs F2 H2 l ⟨by rw [← r.length]; rfl, okq, r⟩
    subst hd
    refine q_found2 rfl (P := fun e => e = .list (dueW v).toList) ?_ (by show 3 < sizeLine; decide) fun d hd => ?_
    · refine lift_P (es_lam (due := id) (dueW v) hx ?_)
      exact in_callK (R0 := (mpK K).R) (R1 := (MP.d K v).R) (mpK K).mono (e_var rfl) (e_var rfl) fun F a b ⟨y, oy, ry⟩ rb => ⟨(y, v), rfl, rfl, oy, okw, a, b, rfl, ry, rb⟩
    subst hd
    refine q_found2 rfl (P := fun e => e = .list (dueW v).toList) ?_ (by show 4 < sizeLine; decide) fun d hd => ?_
    · refine lift_P (es_lam (due := id) (dueW v) hx ?_)
      refine in_call fun F H σ s sl Q q => ?_
      exact a_two (m1 := mpK K) (m2 := MP.d K v) (e_var rfl) (e_var rfl) F H σ s sl Q fun vs F2 H2 l ⟨a, b, e, ⟨y, oy, ry⟩, rb⟩ => q vs F2 H2 l ⟨(y, v), rfl, by rw [e]; rfl, oy, okw, a, b, e, ry, rb⟩
    subst hd
    obtain ⟨f1, f2, f3⟩ := five_ok hv
    refine s_ifS (G := fun b F H => JL K D G PT qL (i * 200 + 75) none F H ∧ b = false) (fun F H σ s j sl Q q => ?_) (fun F H σ s j => absurd j.2 (by simp)) (s_next fun F H j => ⟨(by repeat (first | exact WeakL.nil | refine WeakL.same ?_ | refine WeakL.drop ?_)), j.1.le (by omega)⟩)
    show tRepr K (tVar 9) σ H fun x H1 => tRepr K (tOp rRep (tLst (tCons (tVar 7) tNil)) (tC (.int 5))) σ H1 fun y H2 => rNe x y H2 fun z H3 => ∃ k, z = .bl k ∧ (if k = true then Q true H3 else tTest (tOp rNe (tRepr K (tVar 5)) (tVar 8)) σ H3 Q)
    refine es_reprL (i := 9) rfl f1 f2 f3 F H σ s j sl _ fun u F1 H1 l1 ⟨j1, e1⟩ => ?_
    refine es_repr5 (d := .list (dueL v)) cl_JL (e_dv (i := 7) (d := .list (dueL v))) (by rw [hL]; exact f1) (by rw [hL]; exact f2) (by rw [hL]; exact f3) F1 H1 σ l1.s j1 (sl.mono l1.f) _ fun u2 F2 H2 l2 ⟨j2, e2⟩ => ?_
    subst e1 e2
    refine ⟨rfl, false, by rw [hL]; simp, ?_⟩
    rw [if_neg (by decide)]
    exact b_test ((e_neS (e_repr (e_dv (i := 5) (d := v)) hv.2.2.2.1 (some_shown hv) (by have := hv.2.2.1; omega)) (e_dv (i := 8) (d := .str v.shown))).is (d := .bool (!decide (v.shown = v.shown))) (e := .bool false) (by simp)) F2 H2 σ l2.s (sl.mono (l1.f.trans l2.f)) _ fun F3 H3 l3 => q false F3 H3 ((l1.trans l2).trans l3.up) ⟨(cl_JL F2 H2 F3 H3 l3 j2).forget, rfl⟩
  · exact s_ret (e_bl (K := K)) cl_JL fun v F H _ r => by cases r; rfl
end
end K47

set_option Elab.async false
set_option linter.all false
set_option maxRecDepth 100000
set_option maxHeartbeats 0
namespace K47
open PySem PySem.Spec PyProof.Rows L2 LK
abbrev RR : PySem.W.OpenRow := PySem.W.OpenLaw.row PySem.Challenge.rw_latekeepers_k47_comparing_refused
abbrev hk : PySem.W.Hook := hookM 5 fa fn gs tf ex
def ob (s : PySem.W.SharedT) : AlM := obsM 5 fa fn gs tf ex (HandSHeadRun.getT s)
theorem ob_eq (s : PySem.W.SharedT) : ob s = hk.obs s.abs := obsM_eq (HandSHeadRun.getT_eq s)
def names1 : List Str := ["_wall", "KeeperError", "BadWord", "BadView", "BadKeeper", "BadRule", "LETTERS", "LONGEST", "CONDITIONS", "is_list", "is_number", "is_word", "is_thing_part", "is_own_part", "is_view", "need_view", "thing_conditions", "own_conditions", "held_for", "things_of", "views_of", "PARTS", "PLAIN_DEEDS", "TURN", "MOST_CONDITIONS", "MOST_RULES", "MOST_WANTS"]
def names2 : List Str := ["are_different", "is_deed", "is_rule", "are_wants", "Keeper", "MOST_WORDS", "need_words", "all_views", "table_of", "choice", "parted", "idle", "trimmed", "_law_begun", "_law_mixed", "_law_take", "_law_pick", "_law_word", "_law_words", "_law_known", "_law_decided", "_law_any_rule", "_law_any_keeper", "_law_near", "_law_refusal", "_law_is_plain_word", "_law_due"]
def names : List Str := names1 ++ names2
theorem run (w : World) : HandSHeadRun.RunEq RR (PySem.W.view RR.prog [60]) hk ob 12000 names w := by
  intro os
  kernel_rfl
end K47

set_option Elab.async false
set_option linter.all false
set_option maxRecDepth 100000
set_option maxHeartbeats 0
/-! PD47q: the end. -/
open PySem PySem.W PySem.Calls PyProof.Rows
namespace K47
theorem lawAt {w : World} {mg : Str → Option Value} {h : Heap} {K : PySem.W.Frag} {P : Program} (T : Tx w h K mg) (hP : (PySem.Challenge.rw_latekeepers_k47_comparing_refused).prog = P) : LamX.LawAtG (PySem.Challenge.rw_latekeepers_k47_comparing_refused) w K L2.CX0 13 63 "_law_script" mg (He.ga K "law") h := by
  obtain ⟨fd, F⟩ := T.d_law
  have b := L2.FunD.bindsA (ps := ["_law_script"]) F fun _ _ _ _ _ _ us hl => match us, hl with | [_], _ => rfl
  obtain ⟨oc, od, dV, kV, doc, pm, an, cdv, ct, osl, e, lk, hcd, _, _⟩ := id F.ex
  obtain ⟨CO, ec⟩ := He.codeIn_ref hcd
  have hco : fd.code = .ref CO := by rw [e, ← ec] <;> rfl
  have hC : He.codeOf K ("law", none) = CO := He.codeOf_eq (p := ("law", none)) lk hco
  have hm : (("law", none) : He.Defn) ∈ tf := List.mem_cons_self
  refine ⟨fd, [He.cT K ("law", none)], spLaw K (He.cT K ("law", none)).2, ?_, ?_, ?_, fun s v => b s [v] rfl, ?_, fun base _ _ tb => ?_⟩
  · intro p hp
    rw [List.mem_singleton.mp hp]
    exact T.c.x.empty _ hm
  · intro p hp
    rw [List.mem_singleton.mp hp]
    exact T.c.x.out _ hm
  · intro p hp
    rw [List.mem_singleton.mp hp]
    exact PySem.W.codeHd_of_K T.X (T.c.x.hd _ hm)
  · intro H a ns hl _ ht hS
    exact ⟨ns, a, rfl, hS, hl, ht _ List.mem_cons_self, fun _ => rfl⟩
  · have t := tb _ List.mem_cons_self
    rw [show (He.cT K ("law", none)).1 = CO from hC] at t
    exact ok_law T F hco t
end K47
theorem PySem.Challenge.cw_latekeepers_k47_comparing_refused_holds : PySem.Challenge.rw_latekeepers_k47_comparing_refused.Holds := by
  w_on; o_law
  refine HandSHeadRun.head_any (r := K47.RR) (q := view K47.RR.prog [60]) (H := K47.hk) (ob := K47.ob) (M := 12000) (loose := K47.names) (d := HandSHeadRun.topDef K47.RR.prog 60) (kwd := []) K47.ob_eq
    (by kernel_rfl) (fun s => by kernel_rfl) K47.run (by kernel_rfl) (by kernel_rfl) (by kernel_rfl) (by rfl) (by first | assumption | decide +kernel) (by decide +kernel) ⟨rfl, rfl, rfl, rfl, rfl, by decide +kernel⟩ ?hw ?hc
  case hw => w_witness2
  case hc =>
    refine LamX.walk_ofG (l := PySem.Challenge.rw_latekeepers_k47_comparing_refused) (n := 63) (k := 13) (x := "_law_script") (CX := fun _ => L2.CX0) rfl (by decide) (by kernel_rfl) ⟨rfl, by decide, by decide⟩ ?F (fun _ _ _ _ _ z => z)
    intro w mg fa h Y G hmg0
    obtain ⟨K, KX, c⟩ := Y
    have T : K47.Tx w h K mg := ⟨KX, G, c⟩
    have e := hmg0.symm.trans (show mg (HandSHeadRun.topDef K47.RR.prog 60).name = some (.ref (He.ga K "law")) by
      have e : (HandSHeadRun.topDef K47.RR.prog 60).name = ("law" : PySem.Str) := by kernel_rfl
      rw [e]
      exact T.g_law)
    cases e
    exact ⟨K, KX, K47.lawAt T rfl⟩
#print axioms PySem.Challenge.cw_latekeepers_k47_comparing_refused_holds

