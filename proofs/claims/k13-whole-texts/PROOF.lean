import PyProof.Rows.All
import Wide.All
import OpenK.AllK
import Wide.FinOn
import HandS.ForMost
import HandS.Evl
import HandS.Exc
import HandS.Walk
import HandS.ExcOwn
import HandS.TupAny
import HandS.TupLe
import HandS.TupMul
import HandS.Wide
import HandS.IsInst
import HandS.Property
import HandS.WordsExc
import HandS.Zip
import KE.GoesMore
import HandS.Style
import HandS.EndBits
import HandS.SortRule
import KE.KSortTup
import KE.KDictDisplayH
import HandS.TupLen
import HandS.Iter
import HandS.SetIn
import KE.DataMinMax
import HandS.Deep
import HandS.ExcInit
import HandS.ExcSuper
import KE.KExcSuper
import HandS.TryMany
import HandS.ExcIs
import HandS.ExcField
import HandS.SlotsOwn
import OpenK.KOps
import PyProof.ZipIter
import HandS.Zip0
import HandS.SetFor
import HandS.FStr
import HandS.Text
import KE.GoesEnum
import PyProof.StrReplace2
import PyProof.StrOps2
import HandS.Replace
import OpenK.KOwn
import PyProof.StrLawsReplace
import PySem.Challenge.RW_handwheels_k13_whole_texts
set_option Elab.async false
set_option linter.all false
set_option maxRecDepth 100000
set_option maxHeartbeats 4000000
/-! data over the hand layer: values without addresses -/
namespace DL
open PySem PySem.Spec PyProof.Rows L2

inductive D where
  | non | bl (b : Bool) | int (i : Int) | str (x : Str)
  | tup (xs : List D) | lst (xs : List D) | scr (xs : List D)
  | own (i : Nat) | sl (i : Nat)
  | ins (C : Addr) (fs : List (Str × D))
  | ty (n : String) | cls (C : Addr)
  | dic (kvs : List (List Int × D))
  | mtp (xs : List D)

/-- a cell of the store -/
inductive Cell where
  | lst (xs : List D)
  | ins (C : Addr) (fs : List (Str × D))
abbrev Store := List Cell
inductive Slot where
  | un | fz (d : D) | ol (xs : List D) | od (kvs : List (List Int × D))
abbrev Env := List Slot

inductive Res (α : Type) where
  | ok (a : α) (st : Store) | err (c : Addr) (fs : List (Str × D)) (st : Store) | no
inductive RS where
  | nx (e : Env) (s : Store) | rt (d : D) (s : Store) | bk (e : Env) (s : Store) | ct (e : Env) (s : Store)
  | err (c : Addr) (fs : List (Str × D)) (e : Env) (s : Store) | no

abbrev FE := Env → Store → Res D
abbrev FT := Env → Store → Res Bool
abbrev FA := Env → Store → Res (List D)
abbrev FS := Env → Store → RS

/-- a tuple that stands still: tracked, or an object of the module -/
def SqU (_ : PySem.W.Frag) (H : Hp) (a : Addr) (xs : List V) : Prop := H a = some (.tup xs) ∨ False
theorem SqU.t {K : PySem.W.Frag} {H : Hp} {a : Addr} {xs : List V} (h : SqU K H a xs) : SqT K H a xs := h.elim (fun h => .inl (.inl h)) False.elim
theorem SqU.at_ {K : PySem.W.Frag} {H : Hp} {a : Addr} {xs : List V} (h : SqU K H a xs) : H a = some (.tup xs) := h.elim id False.elim
/-- a tuple that has no dict of its own: it is known to its object -/
def SqN (K : PySem.W.Frag) (H : Hp) (a : Addr) (xs : List V) : Prop := (∃ o : Obj, H a = some (.frz o (.tup xs)) ∧ o.dict = none) ∨ ∃ (o : Obj) (its : Array Value) (n : Nat), K.lookup a = some o ∧ o.cls = .type "tuple" ∧ o.dict = none ∧ o.data = .seq its n ∧ its.size ≤ sizeLine ∧ Vals xs its.toList
theorem SqN.t {K : PySem.W.Frag} {H : Hp} {a : Addr} {xs : List V} (h : SqN K H a xs) : SqT K H a xs := by
  rcases h with ⟨o, h, _⟩ | ⟨o, its, n, h1, h2, _, h3, h4, h5⟩
  · exact .inl (.inr ⟨o, h⟩)
  · exact .inr ⟨o, its, n, h1, h2, h3, h4, h5⟩
theorem sqN_mono {K : PySem.W.Frag} {F F' : Hp} {a : Addr} {xs : List V} (e : Same F F') (h : SqN K F a xs) : SqN K F' a xs := by
  rcases h with ⟨o, h, d⟩ | h
  · exact .inl ⟨o, e _ _ h, d⟩
  · exact .inr h
theorem sqU_mono {K : PySem.W.Frag} {F F' : Hp} {a : Addr} {xs : List V} (e : Same F F') (h : SqU K F a xs) : SqU K F' a xs := h.imp (fun h => e _ _ h) id

section
variable (K : PySem.W.Frag) (ρ : List Addr) (F : Hp)
mutual
inductive Rp : V → D → Prop
  | non : Rp .non .non
  | bl (b : Bool) : Rp (.bl b) (.bl b)
  | int (i : Int) : Rp (.int i) (.int i)
  | str (x : Str) : Rp (.str x) (.str x)
  | ty (n : String) : Rp (.ty n) (.ty n)
  | cls (C : Addr) : Rp (.ref C) (.cls C)
  | tup {a : Addr} {vs : List V} {ds : List D} (h : SqU K F a vs) (r : RpL vs ds) : Rp (.ref a) (.tup ds)
  | lst {a : Addr} {vs : List V} {ds : List D} (h : F a = some (.lst vs)) (r : RpL vs ds) : Rp (.ref a) (.lst ds)
  | scr {a : Addr} {vs : List V} {ds : List D} (h : SqL K F a vs) (r : RpL vs ds) : Rp (.ref a) (.scr ds)
  | own {a : Addr} {i : Nat} (h : ρ[i]? = some a) : Rp (.ref a) (.own i)
  | ins {a C dx : Addr} {fv : List (Str × V)} {fs : List (Str × D)} (h : F a = some (.ins C dx fv)) (hd : F dx = some (.own a)) (r : RpF fv fs) : Rp (.ref a) (.ins C fs)
  | mtp {a : Addr} {vs : List V} {ds : List D} (h : SqN K F a vs) (r : RpL vs ds) : Rp (.ref a) (.mtp ds)
  | dic {a : Addr} {o : Obj} {kv : List (List Key × V)} {kvs : List (List Int × D)} (h : F a = some (.frz o (.dT kv))) (hk : kv.map (·.1) = kvs.map (fun p => p.1.map Sum.inl)) (r : RpL (kv.map (·.2)) (kvs.map (·.2))) : Rp (.ref a) (.dic kvs)
inductive RpL : List V → List D → Prop
  | nil : RpL [] []
  | cons {v : V} {d : D} {vs : List V} {ds : List D} (h : Rp v d) (t : RpL vs ds) : RpL (v :: vs) (d :: ds)
inductive RpF : List (Str × V) → List (Str × D) → Prop
  | nil : RpF [] []
  | cons {n : Str} {v : V} {d : D} {vs : List (Str × V)} {ds : List (Str × D)} (h : Rp v d) (t : RpF vs ds) : RpF ((n, v) :: vs) ((n, d) :: ds)
end
end

theorem sqT_mono {K : PySem.W.Frag} {F F' : Hp} {a : Addr} {xs : List V} (e : Same F F') (h : SqT K F a xs) : SqT K F' a xs := Evl.ex_t e h
theorem sqL_mono {K : PySem.W.Frag} {F F' : Hp} {a : Addr} {xs : List V} (e : Same F F') (h : SqL K F a xs) : SqL K F' a xs := Evl.ex_l e h

/-- longer addresses -/
def Lg (ρ ρ' : List Addr) : Prop := ∀ (i : Nat) (a : Addr), ρ[i]? = some a → ρ'[i]? = some a
theorem Lg.refl (ρ : List Addr) : Lg ρ ρ := fun _ _ h => h
theorem Lg.trans {a b c : List Addr} (x : Lg a b) (y : Lg b c) : Lg a c := fun i p h => y i p (x i p h)

section
variable {K : PySem.W.Frag} {ρ ρ' : List Addr} {F F' : Hp}
mutual
theorem Rp.mono {v : V} {d : D} (l : Lg ρ ρ') (e : Same F F') (h : Rp K ρ F v d) : Rp K ρ' F' v d :=
  match h with
  | .non => .non
  | .bl b => .bl b
  | .int i => .int i
  | .str x => .str x
  | .ty n => .ty n
  | .cls C => .cls C
  | .tup h r => .tup (sqU_mono e h) (RpL.mono l e r)
  | .lst h r => .lst (e _ _ h) (RpL.mono l e r)
  | .scr h r => .scr (sqL_mono e h) (RpL.mono l e r)
  | .own h => .own (l _ _ h)
  | .ins h hd r => .ins (e _ _ h) (e _ _ hd) (RpF.mono l e r)
  | .dic h hk r => .dic (e _ _ h) hk (RpL.mono l e r)
  | .mtp h r => .mtp (sqN_mono e h) (RpL.mono l e r)
theorem RpL.mono {v : List V} {d : List D} (l : Lg ρ ρ') (e : Same F F') (h : RpL K ρ F v d) : RpL K ρ' F' v d :=
  match h with
  | .nil => .nil
  | .cons h t => .cons (Rp.mono l e h) (RpL.mono l e t)
theorem RpF.mono {v : List (Str × V)} {d : List (Str × D)} (l : Lg ρ ρ') (e : Same F F') (h : RpF K ρ F v d) : RpF K ρ' F' v d :=
  match h with
  | .nil => .nil
  | .cons h t => .cons (Rp.mono l e h) (RpF.mono l e t)
end
theorem RpL.length : ∀ {vs : List V} {ds : List D}, RpL K ρ F vs ds → vs.length = ds.length
  | _, _, .nil => rfl
  | _, _, .cons _ t => by simp [RpL.length t]
theorem RpL.get : ∀ {vs : List V} {ds : List D} {i : Nat} {d : D}, RpL K ρ F vs ds → ds[i]? = some d → ∃ v, vs[i]? = some v ∧ Rp K ρ F v d
  | _, _, _, _, .nil, e => by simp at e
  | _, _, 0, _, .cons h _, e => by simp at e; subst e; exact ⟨_, rfl, h⟩
  | _, _, i + 1, d, .cons _ t, e => by
    obtain ⟨v, h1, h2⟩ := RpL.get (i := i) (d := d) t (by simpa using e)
    exact ⟨v, by simpa using h1, h2⟩
theorem RpL.get' : ∀ {vs : List V} {ds : List D} {i : Nat} {v : V}, RpL K ρ F vs ds → vs[i]? = some v → ∃ d, ds[i]? = some d ∧ Rp K ρ F v d
  | _, _, _, _, .nil, e => by simp at e
  | _, _, 0, _, .cons h _, e => by simp at e; subst e; exact ⟨_, rfl, h⟩
  | _, _, i + 1, v, .cons _ t, e => by
    obtain ⟨d, h1, h2⟩ := RpL.get' (i := i) (v := v) t (by simpa using e)
    exact ⟨d, by simpa using h1, h2⟩
theorem RpL.append : ∀ {vs us : List V} {ds es : List D}, RpL K ρ F vs ds → RpL K ρ F us es → RpL K ρ F (vs ++ us) (ds ++ es)
  | _, _, _, _, .nil, s => s
  | _, _, _, _, .cons h t, s => .cons h (RpL.append t s)
theorem RpL.set {v : V} {d : D} (h : Rp K ρ F v d) : ∀ {vs : List V} {ds : List D} (i : Nat), RpL K ρ F vs ds → RpL K ρ F (vs.set i v) (ds.set i d)
  | _, _, _, .nil => .nil
  | _, _, 0, .cons _ t => .cons h t
  | _, _, i + 1, .cons q t => .cons q (RpL.set h i t)
theorem RpL.take : ∀ {vs : List V} {ds : List D} (n : Nat), RpL K ρ F vs ds → RpL K ρ F (vs.take n) (ds.take n)
  | _, _, 0, _ => .nil
  | _, _, _ + 1, .nil => .nil
  | _, _, n + 1, .cons r t => .cons r (RpL.take n t)
theorem RpL.drop : ∀ {vs : List V} {ds : List D} (n : Nat), RpL K ρ F vs ds → RpL K ρ F (vs.drop n) (ds.drop n)
  | _, _, 0, r => r
  | _, _, _ + 1, .nil => .nil
  | _, _, n + 1, .cons _ t => RpL.drop n t
theorem RpL.ints : ∀ {vs : List V} {ns : List Int}, RpL K ρ F vs (ns.map D.int) → vs = ns.map V.int
  | _, [], .nil => rfl
  | _, _ :: _, .cons (.int _) t => by rw [List.map_cons, RpL.ints t]
theorem RpL.of_ints : ∀ (ns : List Int), RpL K ρ F (ns.map V.int) (ns.map D.int)
  | [] => .nil
  | _ :: r => .cons (.int _) (RpL.of_ints r)
theorem RpL.bls : ∀ {vs : List V} {ns : List Bool}, RpL K ρ F vs (ns.map D.bl) → vs = ns.map V.bl
  | _, [], .nil => rfl
  | _, _ :: _, .cons (.bl _) t => by rw [List.map_cons, RpL.bls t]
end

/-! ### states -/
/-- what stood at the start: addresses of the store, the frozen part, the heap, the addresses owned -/
structure Base where
  ρ : List Addr
  F : Hp
  H : Hp
  O : Addr → Prop

/-- an instance keeps its class and its dict -/
def InsK (H H' : Hp) : Prop := ∀ a C dx fv, H a = some (.ins C dx fv) → ∃ fv', H' a = some (.ins C dx fv')
theorem InsK.refl (H : Hp) : InsK H H := fun _ _ _ fv h => ⟨fv, h⟩
theorem InsK.trans {H H1 H2 : Hp} (x : InsK H H1) (y : InsK H1 H2) : InsK H H2 := fun a C dx fv h => let ⟨_, h1⟩ := x a C dx fv h; y a C dx _ h1
theorem InsK.same {H H' : Hp} (e : Same H H') : InsK H H' := fun _ _ _ fv h => ⟨fv, e _ _ h⟩
theorem InsK.lst {H : Hp} {p : Addr} {xs ys : List V} (h : H p = some (.lst xs)) : InsK H (upd H p (.lst ys)) := fun a C dx fv e => by
  have n : a ≠ p := fun z => by rw [z, h] at e; cases e
  exact ⟨fv, by rw [upd_ne n]; exact e⟩

section
variable (K : PySem.W.Frag)
def CellOk (ρ : List Addr) (F H : Hp) (a : Addr) : Cell → Prop
  | .lst xs => ∃ vs, H a = some (.lst vs) ∧ RpL K ρ F vs xs
  | .ins C fs => ∃ dx fv, H a = some (.ins C dx fv) ∧ H dx = some (.own a) ∧ F dx = none ∧ RpF K ρ F fv fs
/-- the store -/
structure StOk (ρ : List Addr) (F H : Hp) (st : Store) : Prop where
  sub : Same F H
  nd : ρ.Nodup
  len : st.length = ρ.length
  at_ : ∀ (i : Nat) (c : Cell) (a : Addr), st[i]? = some c → ρ[i]? = some a → F a = none ∧ CellOk K ρ F H a c
/-- an owned slot's address -/
def OwnAt (σ : L2.St) (i : Nat) (a : Addr) : Prop := σ[i]? = some (some (.ref a))
def SlotOk (ρ : List Addr) (F H : Hp) (σ : L2.St) (i : Nat) : Slot → Prop
  | .un => True
  | .fz d => ∃ v, σ[i]? = some (some v) ∧ Rp K ρ F v d
  | .ol xs => ∃ a vs, OwnAt σ i a ∧ F a = none ∧ a ∉ ρ ∧ H a = some (.lst vs) ∧ RpL K ρ F vs xs
  | .od kvs => ∃ a kv, OwnAt σ i a ∧ F a = none ∧ a ∉ ρ ∧ H a = some (.dT kv) ∧ kv.map (·.1) = kvs.map (fun p => p.1.map Sum.inl) ∧ RpL K ρ F (kv.map (·.2)) (kvs.map (·.2))
def Slot.owned : Slot → Bool
  | .ol _ => true
  | .od _ => true
  | _ => false
structure Sim (B : Base) (ρ : List Addr) (F : Hp) (env : Env) (st : Store) (σ : L2.St) (H : Hp) : Prop where
  so : StOk K ρ F H st
  len : env.length = σ.length
  sl : ∀ (i : Nat) (s : Slot), env[i]? = some s → SlotOk K ρ F H σ i s
  apart : ∀ (i j : Nat) (s t : Slot) (a : Addr), env[i]? = some s → env[j]? = some t → s.owned = true → t.owned = true → OwnAt σ i a → OwnAt σ j a → i = j
  ownO : ∀ (i : Nat) (s : Slot) (a : Addr), env[i]? = some s → s.owned = true → OwnAt σ i a → B.O a ∨ B.H a = none
  lg : Lg B.ρ ρ
  fs : Same B.F F
  fnew : ∀ a o, F a = some o → (∃ u, B.F a = some u) ∨ B.H a = none ∨ B.O a ∨ ∃ xs, B.H a = some (.tup xs)
  rnew : ∀ a ∈ ρ, a ∈ B.ρ ∨ B.H a = none ∨ B.O a
  keep : ∀ a o, B.H a = some o → a ∉ B.ρ → ¬ B.O a → H a = some o
  ins : InsK B.H H
end

/-! ### growing -/
structure Grow (K : PySem.W.Frag) (ρ : List Addr) (F H : Hp) (ρ' : List Addr) (F' H' : Hp) (st' : Store) : Prop where
  so : StOk K ρ' F' H' st'
  lg : Lg ρ ρ'
  fs : Same F F'
  fnew : ∀ a o, F' a = some o → (∃ u, F a = some u) ∨ H a = none ∨ ∃ xs, H a = some (.tup xs)
  rnew : ∀ a ∈ ρ', a ∈ ρ ∨ H a = none
  keep : ∀ a o, H a = some o → a ∉ ρ → H' a = some o
  ins : InsK H H'

section
variable {K : PySem.W.Frag} {B : Base} {ρ ρ' : List Addr} {F F' H H' : Hp} {env env' : Env} {st st' : Store} {σ σ' : L2.St}
theorem CellOk.ex {a : Addr} {c : Cell} (h : CellOk K ρ F H a c) : ∃ o, H a = some o := by
  cases c with
  | lst xs => obtain ⟨vs, h, _⟩ := h; exact ⟨_, h⟩
  | ins C fs => obtain ⟨dx, fv, h, _⟩ := h; exact ⟨_, h⟩
theorem StOk.there (s : StOk K ρ F H st) {a : Addr} (h : a ∈ ρ) : F a = none ∧ ∃ o, H a = some o := by
  obtain ⟨i, hi⟩ := List.getElem?_of_mem h
  have hl : i < st.length := by rw [s.len]; exact (List.getElem?_eq_some_iff.mp hi).1
  obtain ⟨f, c⟩ := s.at_ i st[i] a (List.getElem?_eq_getElem hl) hi
  exact ⟨f, c.ex⟩
theorem none_of {a : Addr} (h : ∀ o, F a ≠ some o) : F a = none := by
  cases e : F a with
  | none => rfl
  | some o => exact absurd e (h o)
theorem SlotOk.mono {i : Nat} {s : Slot} (h : SlotOk K ρ F H σ i s) (l : Lg ρ ρ') (e : Same F F') (hF : ∀ a, OwnAt σ i a → s.owned = true → F' a = none ∧ a ∉ ρ' ∧ ∀ o, H a = some o → H' a = some o) : SlotOk K ρ' F' H' σ i s := by
  cases s with
  | un => trivial
  | fz d => obtain ⟨v, h1, h2⟩ := h; exact ⟨v, h1, h2.mono l e⟩
  | ol xs =>
    obtain ⟨a, vs, h1, h2, h3, h4, h5⟩ := h
    obtain ⟨g1, g2, g3⟩ := hF a h1 rfl
    exact ⟨a, vs, h1, g1, g2, g3 _ h4, h5.mono l e⟩
  | od kvs =>
    obtain ⟨a, kv, h1, h2, h3, h4, h5, h6⟩ := h
    obtain ⟨g1, g2, g3⟩ := hF a h1 rfl
    exact ⟨a, kv, h1, g1, g2, g3 _ h4, h5, h6.mono l e⟩
theorem SlotOk.own {i : Nat} {s : Slot} (h : SlotOk K ρ F H σ i s) (ho : s.owned = true) : ∃ a, OwnAt σ i a ∧ F a = none ∧ a ∉ ρ ∧ ∃ o, H a = some o := by
  cases s with
  | un => cases ho
  | fz d => cases ho
  | ol xs => obtain ⟨a, vs, h1, h2, h3, h4, _⟩ := h; exact ⟨a, h1, h2, h3, _, h4⟩
  | od kvs => obtain ⟨a, vs, h1, h2, h3, h4, _⟩ := h; exact ⟨a, h1, h2, h3, _, h4⟩
theorem OwnAt.inj {i : Nat} {a b : Addr} (h : OwnAt σ i a) (h' : OwnAt σ i b) : a = b := by
  unfold OwnAt at h h'
  rw [h] at h'
  cases h'
  rfl
/-- what is none now was none at the start, or was owned -/
theorem Sim.back (S : Sim K B ρ F env st σ H) {a : Addr} (h : H a = none) : B.H a = none ∨ B.O a := by
  cases e : B.H a with
  | none => exact .inl rfl
  | some o =>
    by_cases h1 : a ∈ B.ρ
    · obtain ⟨i, hi⟩ := List.getElem?_of_mem h1
      obtain ⟨_, o', ho⟩ := S.so.there (List.mem_of_getElem? (S.lg i a hi))
      rw [h] at ho; cases ho
    · by_cases h2 : B.O a
      · exact .inr h2
      · rw [S.keep a o e h1 h2] at h; cases h
theorem SlotOk.notT {i : Nat} {s : Slot} {a : Addr} {xs : List V} (h : SlotOk K ρ F H σ i s) (ho : s.owned = true) (ha : OwnAt σ i a) : H a ≠ some (.tup xs) := fun e => by
  cases s with
  | un => cases ho
  | fz d => cases ho
  | ol ys => obtain ⟨b, vs, h1, _, _, h4, _⟩ := h; cases ha.inj h1; rw [e] at h4; cases h4
  | od ys => obtain ⟨b, vs, h1, _, _, h4, _⟩ := h; cases ha.inj h1; rw [e] at h4; cases h4
theorem CellOk.notT {a : Addr} {c : Cell} {xs : List V} (h : CellOk K ρ F H a c) : H a ≠ some (.tup xs) := fun e => by
  cases c with
  | lst ys => obtain ⟨vs, h, _⟩ := h; rw [e] at h; cases h
  | ins C fs => obtain ⟨dx, fv, h, _⟩ := h; rw [e] at h; cases h
theorem StOk.notT (s : StOk K ρ F H st) {a : Addr} {xs : List V} (h : a ∈ ρ) : H a ≠ some (.tup xs) := by
  obtain ⟨i, hi⟩ := List.getElem?_of_mem h
  have hl : i < st.length := by rw [s.len]; exact (List.getElem?_eq_some_iff.mp hi).1
  exact (s.at_ i st[i] a (List.getElem?_eq_getElem hl) hi).2.notT
/-- what is a tuple now was one at the start, or was none, or was owned -/
theorem Sim.backT (S : Sim K B ρ F env st σ H) {a : Addr} {xs : List V} (h : H a = some (.tup xs)) : B.H a = none ∨ B.O a ∨ ∃ xs, B.H a = some (.tup xs) := by
  cases e : B.H a with
  | none => exact .inl rfl
  | some o =>
    by_cases h1 : a ∈ B.ρ
    · obtain ⟨i, hi⟩ := List.getElem?_of_mem h1
      exact absurd h (S.so.notT (List.mem_of_getElem? (S.lg i a hi)))
    · by_cases h2 : B.O a
      · exact .inr (.inl h2)
      · have := S.keep a o e h1 h2
        rw [h] at this; cases this
        exact .inr (.inr ⟨_, rfl⟩)
/-- a call made it grow -/
theorem Sim.grow (S : Sim K B ρ F env st σ H) (G : Grow K ρ F H ρ' F' H' st') : Sim K B ρ' F' env st' σ H' where
  so := G.so
  len := S.len
  sl := fun i s hi => (S.sl i s hi).mono G.lg G.fs fun a ha ho => by
    obtain ⟨b, h1, h2, h3, o, h4⟩ := (S.sl i s hi).own ho
    cases ha.inj h1
    refine ⟨none_of fun u hu => ?_, fun hm => ?_, fun o' ho' => G.keep a o' ho' h3⟩
    · rcases G.fnew a u hu with ⟨w, hw⟩ | hw | ⟨xs, hw⟩
      · rw [h2] at hw; cases hw
      · rw [h4] at hw; cases hw
      · exact (S.sl i s hi).notT ho ha hw
    · rcases G.rnew a hm with hw | hw
      · exact h3 hw
      · rw [h4] at hw; cases hw
  apart := S.apart
  ownO := S.ownO
  lg := S.lg.trans G.lg
  fs := S.fs.trans G.fs
  fnew := fun a o h => by
    rcases G.fnew a o h with ⟨w, hw⟩ | hw | ⟨xs, hw⟩
    · exact S.fnew a w hw
    · rcases S.back hw with q | q
      · exact .inr (.inl q)
      · exact .inr (.inr (.inl q))
    · exact .inr (S.backT hw)
  rnew := fun a h => by
    rcases G.rnew a h with hw | hw
    · exact S.rnew a hw
    · exact .inr (S.back hw)
  keep := fun a o h h1 h2 => by
    refine G.keep a o (S.keep a o h h1 h2) fun hm => ?_
    rcases S.rnew a hm with q | q | q
    · exact h1 q
    · rw [h] at q; cases q
    · exact h2 q
  ins := S.ins.trans G.ins
end

/-! ### another start -/
def OwnS (env : Env) (σ : L2.St) (a : Addr) : Prop := ∃ (i : Nat) (s : Slot), env[i]? = some s ∧ s.owned = true ∧ OwnAt σ i a
section
variable {K : PySem.W.Frag} {B : Base} {ρ ρ' : List Addr} {F F' H H' : Hp} {env env' : Env} {st st' : Store} {σ σ' : L2.St}
abbrev reb (ρ : List Addr) (F H : Hp) (env : Env) (σ : L2.St) : Base := ⟨ρ, F, H, OwnS env σ⟩
theorem Sim.rebase (S : Sim K B ρ F env st σ H) : Sim K (reb ρ F H env σ) ρ F env st σ H where
  so := S.so
  len := S.len
  sl := S.sl
  apart := S.apart
  ownO := fun i s a h1 h2 h3 => .inl ⟨i, s, h1, h2, h3⟩
  lg := .refl _
  fs := .refl _
  fnew := fun a o h => .inl ⟨o, h⟩
  rnew := fun a h => .inl h
  keep := fun a o h _ _ => h
  ins := .refl _
theorem Sim.trans (S : Sim K B ρ F env st σ H) (T : Sim K (reb ρ F H env σ) ρ' F' env' st' σ' H') : Sim K B ρ' F' env' st' σ' H' where
  so := T.so
  len := T.len
  sl := T.sl
  apart := T.apart
  ownO := fun i s a h1 h2 h3 => by
    rcases T.ownO i s a h1 h2 h3 with ⟨j, t, q1, q2, q3⟩ | q
    · exact S.ownO j t a q1 q2 q3
    · exact (S.back q).symm
  lg := S.lg.trans T.lg
  fs := S.fs.trans T.fs
  fnew := fun a o h => by
    rcases T.fnew a o h with ⟨w, hw⟩ | hw | ⟨j, t, q1, q2, q3⟩ | ⟨xs, hw⟩
    · exact S.fnew a w hw
    · exact .inr ((S.back hw).imp id .inl)
    · exact .inr ((S.ownO j t a q1 q2 q3).symm.imp id .inl)
    · exact .inr (S.backT hw)
  rnew := fun a h => by
    rcases T.rnew a h with hw | hw | ⟨j, t, q1, q2, q3⟩
    · exact S.rnew a hw
    · exact .inr (S.back hw)
    · exact .inr (S.ownO j t a q1 q2 q3).symm
  keep := fun a o h h1 h2 => by
    refine T.keep a o (S.keep a o h h1 h2) (fun hm => ?_) (fun hm => ?_)
    · rcases S.rnew a hm with q | q | q
      · exact h1 q
      · rw [h] at q; cases q
      · exact h2 q
    · obtain ⟨j, t, q1, q2, q3⟩ := hm
      rcases S.ownO j t a q1 q2 q3 with q | q
      · exact h2 q
      · rw [h] at q; cases q
  ins := S.ins.trans T.ins
/-- other slots -/
theorem Sim.slots (S : Sim K B ρ F env st σ H) (hl : env'.length = σ'.length)
    (h : ∀ (i : Nat) (s : Slot), env'[i]? = some s → (env[i]? = some s ∧ σ'[i]? = σ[i]?) ∨ s = .un ∨ ∃ d v, s = .fz d ∧ σ'[i]? = some (some v) ∧ Rp K ρ F v d) : Sim K B ρ F env' st σ' H where
  so := S.so
  len := hl
  sl := fun i s hi => by
    rcases h i s hi with ⟨h1, h2⟩ | h1 | ⟨d, v, h1, h2, h3⟩
    · have := S.sl i s h1
      cases s with
      | un => trivial
      | fz d => obtain ⟨v, q1, q2⟩ := this; exact ⟨v, h2.trans q1, q2⟩
      | ol xs => obtain ⟨a, vs, q1, q⟩ := this; exact ⟨a, vs, h2.trans q1, q⟩
      | od xs => obtain ⟨a, vs, q1, q⟩ := this; exact ⟨a, vs, h2.trans q1, q⟩
    · subst h1; trivial
    · subst h1; exact ⟨v, h2, h3⟩
  apart := fun i j s t a h1 h2 h3 h4 h5 h6 => by
    rcases h i s h1 with ⟨g1, g2⟩ | g1 | ⟨d, v, g1, _⟩
    · rcases h j t h2 with ⟨k1, k2⟩ | k1 | ⟨d, v, k1, _⟩
      · exact S.apart i j s t a g1 k1 h3 h4 (by unfold OwnAt at *; rw [← g2]; exact h5) (by unfold OwnAt at *; rw [← k2]; exact h6)
      · subst k1; cases h4
      · subst k1; cases h4
    · subst g1; cases h3
    · subst g1; cases h3
  ownO := fun i s a h1 h2 h3 => by
    rcases h i s h1 with ⟨g1, g2⟩ | g1 | ⟨d, v, g1, _⟩
    · exact S.ownO i s a g1 h2 (by unfold OwnAt at *; rw [← g2]; exact h3)
    · subst g1; cases h2
    · subst g1; cases h2
  lg := S.lg
  fs := S.fs
  fnew := S.fnew
  rnew := S.rnew
  keep := S.keep
  ins := S.ins
/-- a name is stored -/
theorem Sim.set {i : Nat} {v : V} {d : D} (S : Sim K B ρ F env st σ H) (r : Rp K ρ F v d) : Sim K B ρ F (env.set i (.fz d)) st (σ.set i (some v)) H := by
  refine S.slots (by simp [S.len]) fun j s hj => ?_
  by_cases e : j = i
  · subst e
    rw [List.getElem?_set] at hj
    simp only [if_true] at hj
    split at hj
    · rename_i hlt
      cases hj
      exact .inr (.inr ⟨d, v, rfl, by rw [List.getElem?_set_self (by rw [← S.len]; exact hlt)], r⟩)
    · cases hj
  · rw [List.getElem?_set_ne (Ne.symm e)] at hj
    exact .inl ⟨hj, List.getElem?_set_ne (Ne.symm e)⟩
/-- back to the slots as they were -/
theorem Sim.restore (S : Sim K B ρ F env st σ H) (T : Sim K B ρ' F' env' st' σ' H') (l : Lg ρ ρ') (e : Same F F')
    (h : ∀ (i : Nat) (s : Slot), env[i]? = some s → s.owned = true → env'[i]? = some s ∧ σ'[i]? = σ[i]?) : Sim K B ρ' F' env st' σ H' where
  so := T.so
  len := S.len
  sl := fun i s hi => by
    cases s with
    | un => trivial
    | fz d => obtain ⟨v, q1, q2⟩ := S.sl i _ hi; exact ⟨v, q1, q2.mono l e⟩
    | ol xs =>
      obtain ⟨h1, h2⟩ := h i _ hi rfl
      obtain ⟨a, vs, q1, q⟩ := T.sl i _ h1
      exact ⟨a, vs, h2.symm.trans q1, q⟩
    | od xs =>
      obtain ⟨h1, h2⟩ := h i _ hi rfl
      obtain ⟨a, vs, q1, q⟩ := T.sl i _ h1
      exact ⟨a, vs, h2.symm.trans q1, q⟩
  apart := S.apart
  ownO := S.ownO
  lg := T.lg
  fs := T.fs
  fnew := T.fnew
  rnew := T.rnew
  keep := T.keep
  ins := T.ins
end

/-! ### values -/
section
variable (K : PySem.W.Frag)
def RpV (ρ : List Addr) (F : Hp) (env : Env) (σ : L2.St) (v : V) (d : D) : Prop := Rp K ρ F v d ∨ ∃ (i : Nat) (a : Addr) (s : Slot), d = .sl i ∧ env[i]? = some s ∧ s.owned = true ∧ OwnAt σ i a ∧ v = .ref a
end
section
variable {K : PySem.W.Frag} {B : Base} {ρ ρ' : List Addr} {F F' H H' : Hp} {env env' : Env} {st st' : Store} {σ σ' : L2.St} {v : V} {d : D}
theorem RpV.mono (r : RpV K ρ F env σ v d) (l : Lg ρ ρ') (e : Same F F') : RpV K ρ' F' env σ v d := r.imp (fun h => h.mono l e) id
theorem RpV.int {i : Int} (r : RpV K ρ F env σ v (.int i)) : v = .int i := by
  rcases r with r | ⟨_, _, _, e, _⟩
  · cases r; rfl
  · cases e
theorem RpV.bl {i : Bool} (r : RpV K ρ F env σ v (.bl i)) : v = .bl i := by
  rcases r with r | ⟨_, _, _, e, _⟩
  · cases r; rfl
  · cases e
theorem RpV.str {i : Str} (r : RpV K ρ F env σ v (.str i)) : v = .str i := by
  rcases r with r | ⟨_, _, _, e, _⟩
  · cases r; rfl
  · cases e
theorem RpV.non (r : RpV K ρ F env σ v .non) : v = .non := by
  rcases r with r | ⟨_, _, _, e, _⟩
  · cases r; rfl
  · cases e
def D.isSl : D → Bool
  | .sl _ => true
  | _ => false
theorem RpV.rp (r : RpV K ρ F env σ v d) (h : d.isSl = false) : Rp K ρ F v d := by
  rcases r with r | ⟨_, _, _, e, _⟩
  · exact r
  · subst e; cases h
theorem RpV.tup {ds : List D} (r : RpV K ρ F env σ v (.tup ds)) : ∃ a vs, v = .ref a ∧ SqU K F a vs ∧ RpL K ρ F vs ds := by
  rcases r with r | ⟨_, _, _, e, _⟩
  · cases r with
    | tup h r => exact ⟨_, _, rfl, h, r⟩
  · cases e
/-- what may be read as a list, as it stands in the heap -/
def seqL (env : Env) (st : Store) : D → Option (List D)
  | .lst xs => some xs
  | .sl i => match env[i]? with
    | some (.ol xs) => some xs
    | _ => none
  | .own i => match st[i]? with
    | some (.lst xs) => some xs
    | _ => none
  | _ => none
theorem seqL_ok {xs : List D} (S : Sim K B ρ F env st σ H) (r : RpV K ρ F env σ v d) (h : seqL env st d = some xs) : ∃ a vs, v = .ref a ∧ H a = some (.lst vs) ∧ RpL K ρ F vs xs := by
  unfold seqL at h
  split at h
  · cases h
    rcases r with r | ⟨_, _, _, e, _⟩
    · cases r with
      | lst h r => exact ⟨_, _, rfl, S.so.sub _ _ h, r⟩
    · cases e
  · split at h
    · rename_i i ys hi
      cases h
      rcases r with r | ⟨j, a, s, e, h1, h2, h3, h4⟩
      · cases r
      · cases e
        rw [hi] at h1; cases h1
        obtain ⟨b, vs, q1, q2, q3, q4, q5⟩ := S.sl _ _ hi
        cases h3.inj q1
        exact ⟨_, vs, h4, q4, q5⟩
    · cases h
  · split at h
    · rename_i i ys hi
      cases h
      rcases r with r | ⟨_, _, _, e, _⟩
      · cases r with
        | own hr =>
          obtain ⟨_, vs, q1, q2⟩ := S.so.at_ _ _ _ hi hr
          exact ⟨_, vs, rfl, q1, q2⟩
      · cases e
    · cases h
  · cases h
/-- .. the script too -/
def seqR (env : Env) (st : Store) : D → Option (List D)
  | .scr xs => some xs
  | d => seqL env st d
theorem seqR_ok {xs : List D} (S : Sim K B ρ F env st σ H) (r : RpV K ρ F env σ v d) (h : seqR env st d = some xs) : ∃ a vs, v = .ref a ∧ SqL K H a vs ∧ RpL K ρ F vs xs := by
  unfold seqR at h
  split at h
  · cases h
    rcases r with r | ⟨_, _, _, e, _⟩
    · cases r with
      | scr h r => exact ⟨_, _, rfl, sqL_mono S.so.sub h, r⟩
    · cases e
  · obtain ⟨a, vs, h1, h2, h3⟩ := seqL_ok S r h
    exact ⟨a, vs, h1, .inl (.inl h2), h3⟩
/-- what may be read as a sequence -/
def seqA (env : Env) (st : Store) : D → Option (List D)
  | .tup xs => some xs
  | .mtp xs => some xs
  | d => seqR env st d
theorem seqA_ok {xs : List D} (S : Sim K B ρ F env st σ H) (r : RpV K ρ F env σ v d) (h : seqA env st d = some xs) : ∃ a vs, v = .ref a ∧ (SqL K H a vs ∨ SqT K H a vs) ∧ RpL K ρ F vs xs := by
  unfold seqA at h
  split at h
  · cases h
    obtain ⟨a, vs, h1, h2, h3⟩ := r.tup
    exact ⟨a, vs, h1, .inr (sqU_mono S.so.sub h2).t, h3⟩
  · cases h
    have r2 := r.rp rfl
    cases r2 with
    | mtp h2 h3 => exact ⟨_, _, rfl, .inr (sqN_mono S.so.sub h2).t, h3⟩
  · obtain ⟨a, vs, h1, h2, h3⟩ := seqR_ok S r h
    exact ⟨a, vs, h1, .inl h2, h3⟩
end

/-! ### new objects -/
section
variable {K : PySem.W.Frag} {B : Base} {ρ ρ' : List Addr} {F F' H H' : Hp} {env env' : Env} {st st' : Store} {σ σ' : L2.St} {v : V} {d : D} {p : Addr} {o : HO}
theorem same_new (h : H p = none) : Same H (upd H p o) := fun b x e => by
  rw [upd_ne (ne_of_none e h)]
  exact e
theorem Sim.noF (S : Sim K B ρ F env st σ H) (h : H p = none) : F p = none := none_of fun u hu => by
  have := S.so.sub _ _ hu
  rw [h] at this; cases this
theorem Sim.noρ (S : Sim K B ρ F env st σ H) (h : H p = none) : p ∉ ρ := fun hm => by
  obtain ⟨_, u, hu⟩ := S.so.there hm
  rw [h] at hu; cases hu
theorem Sim.noOwn (S : Sim K B ρ F env st σ H) (h : H p = none) : ¬ OwnS env σ p := fun ⟨i, s, h1, h2, h3⟩ => by
  obtain ⟨b, q1, _, _, u, q2⟩ := (S.sl i s h1).own h2
  cases h3.inj q1
  rw [h] at q2; cases q2
theorem CellOk.mono {a : Addr} {c : Cell} (h : CellOk K ρ F H a c) (l : Lg ρ ρ') : CellOk K ρ' F H a c := by
  cases c with
  | lst xs => obtain ⟨vs, h1, h2⟩ := h; exact ⟨vs, h1, h2.mono l (.refl _)⟩
  | ins C fs => obtain ⟨dx, fv, h1, h2, h3, h4⟩ := h; exact ⟨dx, fv, h1, h2, h3, h4.mono l (.refl _)⟩
theorem CellOk.same {a : Addr} {c : Cell} (h : CellOk K ρ F H a c) (e : Same H H') : CellOk K ρ F H' a c := by
  cases c with
  | lst xs => obtain ⟨vs, h1, h2⟩ := h; exact ⟨vs, e _ _ h1, h2⟩
  | ins C fs => obtain ⟨dx, fv, h1, h2, h3⟩ := h; exact ⟨dx, fv, e _ _ h1, e _ _ h2, h3⟩
/-- the heap grows beside all that is known -/
theorem Sim.more (S : Sim K B ρ F env st σ H) (e : Same H H') : Sim K B ρ F env st σ H' where
  so := ⟨S.so.sub.trans e, S.so.nd, S.so.len, fun i c a h1 h2 => ⟨(S.so.at_ i c a h1 h2).1, (S.so.at_ i c a h1 h2).2.same e⟩⟩
  len := S.len
  sl := fun i s hi => (S.sl i s hi).mono (.refl _) (.refl _) fun a ha ho => by
    obtain ⟨b, h1, h2, h3, h4⟩ := (S.sl i s hi).own ho
    cases ha.inj h1
    exact ⟨h2, h3, fun o ho => e _ _ ho⟩
  apart := S.apart
  ownO := S.ownO
  lg := S.lg
  fs := S.fs
  fnew := S.fnew
  rnew := S.rnew
  keep := fun a o h h1 h2 => e _ _ (S.keep a o h h1 h2)
  ins := S.ins.trans (.same e)
theorem CellOk.monoF {a : Addr} {c : Cell} (h : CellOk K ρ F H a c) (e : Same F F') (hn : ∀ dx, H dx = some (.own a) → F dx = none → F' dx = none) : CellOk K ρ F' H a c := by
  cases c with
  | lst xs => obtain ⟨vs, h1, h2⟩ := h; exact ⟨vs, h1, h2.mono (.refl _) e⟩
  | ins C fs => obtain ⟨dx, fv, h1, h2, h3, h4⟩ := h; exact ⟨dx, fv, h1, h2, hn dx h2 h3, h4.mono (.refl _) e⟩
/-- an object is frozen -/
theorem Sim.freeze (S : Sim K B ρ F env st σ H) (h : H p = some o) (hF : F p = none) (hρ : p ∉ ρ) (hO : ¬ OwnS env σ p) (hB : B.H p = none ∨ B.O p) (ho : ∀ a, o ≠ .own a) : Sim K B ρ (upd F p o) env st σ H where
  so := ⟨fun a u hu => by
    by_cases e : a = p
    · subst e; rw [upd_same] at hu; cases hu; exact h
    · rw [upd_ne e] at hu; exact S.so.sub a u hu, S.so.nd, S.so.len, fun i c a h1 h2 => by
    obtain ⟨q1, q2⟩ := S.so.at_ i c a h1 h2
    have n1 : a ≠ p := fun e => hρ (by rw [← e]; exact List.mem_of_getElem? h2)
    refine ⟨by rw [upd_ne n1]; exact q1, q2.monoF (same_new hF) fun dx hd hn => ?_⟩
    have n2 : dx ≠ p := fun e => by rw [e, h] at hd; cases hd; exact ho _ rfl
    rw [upd_ne n2]; exact hn⟩
  len := S.len
  sl := fun i s hi => (S.sl i s hi).mono (.refl _) (same_new hF) fun a ha hs => by
    obtain ⟨b, h1, h2, h3, h4⟩ := (S.sl i s hi).own hs
    cases ha.inj h1
    have n1 : a ≠ p := fun e => hO ⟨i, s, hi, hs, by rw [← e]; exact ha⟩
    exact ⟨by rw [upd_ne n1]; exact h2, h3, fun o ho => ho⟩
  apart := S.apart
  ownO := S.ownO
  lg := S.lg
  fs := S.fs.trans (same_new hF)
  fnew := fun a u hu => by
    by_cases e : a = p
    · subst e; exact .inr (hB.imp id .inl)
    · rw [upd_ne e] at hu; exact S.fnew a u hu
  rnew := S.rnew
  keep := S.keep
  ins := S.ins
/-- a new object, frozen at once -/
theorem Sim.newF (S : Sim K B ρ F env st σ H) (h : H p = none) (ho : ∀ a, o ≠ .own a) : Sim K B ρ (upd F p o) env st σ (upd H p o) :=
  (S.more (same_new h)).freeze upd_same (S.noF h) (S.noρ h) (S.noOwn h) (S.back h) ho
/-- a tuple that stands in the heap is known from now on -/
theorem Sim.pinT {q : Addr} {vs : List V} (S : Sim K B ρ F env st σ H) (h : H q = some (.tup vs)) : Sim K B ρ (upd F q (.tup vs)) env st σ H ∧ Same F (upd F q (.tup vs)) := by
  have hs : Same F (upd F q (.tup vs)) := fun b x e => by
    by_cases z : b = q
    · subst z
      have := S.so.sub _ _ e
      rw [h] at this; cases this
      exact upd_same
    · rw [upd_ne z]; exact e
  refine ⟨⟨⟨fun b u hu => ?_, S.so.nd, S.so.len, fun i c a h1 h2 => ?_⟩, S.len, fun i s hi => ?_, S.apart, S.ownO, S.lg, S.fs.trans hs, fun a u hu => ?_, S.rnew, S.keep, S.ins⟩, hs⟩
  · by_cases z : b = q
    · subst z; rw [upd_same] at hu; cases hu; exact h
    · rw [upd_ne z] at hu; exact S.so.sub _ _ hu
  · obtain ⟨q1, q2⟩ := S.so.at_ i c a h1 h2
    have n1 : a ≠ q := fun e => q2.notT (e ▸ h)
    refine ⟨by rw [upd_ne n1]; exact q1, q2.monoF hs fun dx hd hn => ?_⟩
    have n2 : dx ≠ q := fun e => by rw [e, h] at hd; cases hd
    rw [upd_ne n2]; exact hn
  · refine (S.sl i s hi).mono (.refl _) hs fun a ha ho => ?_
    obtain ⟨b, h1, h2, h3, h4⟩ := (S.sl i s hi).own ho
    cases ha.inj h1
    have n1 : a ≠ q := fun e => (S.sl i s hi).notT ho ha (e ▸ h)
    exact ⟨by rw [upd_ne n1]; exact h2, h3, fun o ho => ho⟩
  · by_cases e : a = q
    · subst e; exact .inr (S.backT h)
    · rw [upd_ne e] at hu; exact S.fnew a u hu
/-- an owned slot takes a new list -/
theorem Sim.setOwn {i : Nat} {s : Slot} {a : Addr} (S : Sim K B ρ F env st σ H) (hO : ¬ OwnS env σ a) (hB : B.H a = none ∨ B.O a) (hs : i < σ.length → SlotOk K ρ F H (σ.set i (some (.ref a))) i s) (h1 : s.owned = true) : Sim K B ρ F (env.set i s) st (σ.set i (some (.ref a))) H := by
  have key : ∀ (j : Nat) (t : Slot), (env.set i s)[j]? = some t → (j = i ∧ t = s ∧ i < σ.length) ∨ (j ≠ i ∧ env[j]? = some t ∧ (σ.set i (some (.ref a)))[j]? = σ[j]?) := fun j t hj => by
    by_cases e : j = i
    · subst e
      rw [List.getElem?_set] at hj
      simp only [if_true] at hj
      split at hj
      · rename_i hlt
        cases hj
        exact .inl ⟨rfl, rfl, by rw [← S.len]; exact hlt⟩
      · cases hj
    · rw [List.getElem?_set_ne (Ne.symm e)] at hj
      exact .inr ⟨e, hj, List.getElem?_set_ne (Ne.symm e)⟩
  refine ⟨S.so, by simp [S.len], fun j t hj => ?_, fun j k t u b hj hk ht hu hb hc => ?_, fun j t b hj ht hb => ?_, S.lg, S.fs, S.fnew, S.rnew, S.keep, S.ins⟩
  · rcases key j t hj with ⟨rfl, rfl, hlt⟩ | ⟨_, q, e⟩
    · exact hs hlt
    · have := S.sl j t q
      cases t with
      | un => trivial
      | fz d => obtain ⟨v, q1, q2⟩ := this; exact ⟨v, e.trans q1, q2⟩
      | ol xs => obtain ⟨a, vs, q1, q⟩ := this; exact ⟨a, vs, e.trans q1, q⟩
      | od xs => obtain ⟨a, vs, q1, q⟩ := this; exact ⟨a, vs, e.trans q1, q⟩
  · rcases key j t hj with ⟨rfl, rfl, l1⟩ | ⟨n1, q1, e1⟩
    · rcases key k u hk with ⟨rfl, rfl, l2⟩ | ⟨n2, q2, e2⟩
      · rfl
      · unfold OwnAt at hb hc
        rw [List.getElem?_set_self l1] at hb
        cases hb
        rw [e2] at hc
        exact (hO ⟨k, u, q2, hu, hc⟩).elim
    · rcases key k u hk with ⟨rfl, rfl, l2⟩ | ⟨n2, q2, e2⟩
      · unfold OwnAt at hb hc
        rw [List.getElem?_set_self l2] at hc
        cases hc
        rw [e1] at hb
        exact (hO ⟨j, t, q1, ht, hb⟩).elim
      · unfold OwnAt at hb hc
        rw [e1] at hb
        rw [e2] at hc
        exact S.apart j k t u b q1 q2 ht hu hb hc
  · rcases key j t hj with ⟨rfl, rfl, l1⟩ | ⟨n1, q1, e1⟩
    · unfold OwnAt at hb
      rw [List.getElem?_set_self l1] at hb
      cases hb
      exact hB.symm
    · unfold OwnAt at hb
      rw [e1] at hb
      exact S.ownO j t b q1 ht hb
end

/-! ### readings -/
section
variable (K : PySem.W.Frag) (E : WX)
def ExD (ρ : List Addr) (F H : Hp) (od : Option Addr) (fs : List (Str × D)) : Prop :=
  (fs = [] ∧ od = none) ∨ ∃ dx fv, od = some dx ∧ H dx = some (.xd fv) ∧ RpF K ρ F fv fs
/-- what a result wants of what comes behind -/
def Out {α ω : Type} (R : List Addr → Hp → ω → α → Prop) (B : Base) (ρ : List Addr) (F : Hp) (env : Env) (σ : L2.St) (Q : ω → Hp → Prop) : Res α → Prop
  | .ok d st' => ∀ ρ' F' H' v, Sim K B ρ' F' env st' σ H' → Lg ρ ρ' → Same F F' → R ρ' F' v d → Q v H'
  | .err c fs st' => ∀ ρ' F' H' od, Sim K B ρ' F' env st' σ H' → Lg ρ ρ' → Same F F' → ExD K ρ' F' H' od fs → E (.ref c) od σ H'
  | .no => False
/-- a list of values -/
inductive RpVL (ρ : List Addr) (F : Hp) (env : Env) (σ : L2.St) : List V → List D → Prop
  | nil : RpVL ρ F env σ [] []
  | cons {v : V} {d : D} {vs : List V} {ds : List D} (h : RpV K ρ F env σ v d) (t : RpVL ρ F env σ vs ds) : RpVL ρ F env σ (v :: vs) (d :: ds)
abbrev OutE (B : Base) (ρ : List Addr) (F : Hp) (env : Env) (σ : L2.St) (Q : VK) : Res D → Prop := Out K E (fun ρ F v d => RpV K ρ F env σ v d) B ρ F env σ Q
abbrev OutT (B : Base) (ρ : List Addr) (F : Hp) (env : Env) (σ : L2.St) (Q : Bool → Hp → Prop) : Res Bool → Prop := Out K E (fun _ _ (a b : Bool) => a = b) B ρ F env σ Q
abbrev OutA (B : Base) (ρ : List Addr) (F : Hp) (env : Env) (σ : L2.St) (Q : List V → Hp → Prop) : Res (List D) → Prop := Out K E (fun ρ F vs ds => RpVL K ρ F env σ vs ds) B ρ F env σ Q
def SndE (t : TE) (f : FE) : Prop := ∀ B ρ F env st σ H Q, Sim K B ρ F env st σ H → OutE K E B ρ F env σ Q (f env st) → t σ H Q
def SndT (t : TT) (f : FT) : Prop := ∀ B ρ F env st σ H Q, Sim K B ρ F env st σ H → OutT K E B ρ F env σ Q (f env st) → t σ H Q
def SndA (t : TA) (f : FA) : Prop := ∀ B ρ F env st σ H Q, Sim K B ρ F env st σ H → OutA K E B ρ F env σ Q (f env st) → t σ H Q
end
section
variable {K : PySem.W.Frag} {E : WX} {B : Base} {ρ ρ' : List Addr} {F F' H H' : Hp} {env env' : Env} {st st' : Store} {σ σ' : L2.St} {v : V} {d : D}
theorem RpVL.mono {vs : List V} {ds : List D} (r : RpVL K ρ F env σ vs ds) (l : Lg ρ ρ') (e : Same F F') : RpVL K ρ' F' env σ vs ds := by
  induction r with
  | nil => exact .nil
  | cons h _ ih => exact .cons (h.mono l e) ih
def noSl : List D → Bool
  | [] => true
  | d :: r => !d.isSl && noSl r
theorem RpVL.rp {vs : List V} {ds : List D} (r : RpVL K ρ F env σ vs ds) (h : noSl ds = true) : RpL K ρ F vs ds := by
  induction r with
  | nil => exact .nil
  | cons h1 _ ih =>
    simp only [noSl, Bool.and_eq_true, Bool.not_eq_true'] at h
    exact .cons (h1.rp h.1) (ih h.2)
theorem RpVL.length {vs : List V} {ds : List D} (r : RpVL K ρ F env σ vs ds) : vs.length = ds.length := by
  induction r with
  | nil => rfl
  | cons _ _ ih => simp [ih]
def Res.bind {α β : Type} (r : Res α) (k : α → Store → Res β) : Res β := match r with
  | .ok a s => k a s
  | .err c fs s => .err c fs s
  | .no => .no
/-- what was wanted ahead is wanted further on -/
theorem Out.on {β ω : Type} {R : List Addr → Hp → ω → β → Prop} {Q : ω → Hp → Prop} {r : Res β} (h : Out K E R B ρ F env σ Q r) (l : Lg ρ ρ') (e : Same F F') : Out K E R B ρ' F' env σ Q r := by
  cases r with
  | no => exact h
  | err c fs s => exact fun ρ2 F2 H2 od S2 l2 e2 => h ρ2 F2 H2 od S2 (l.trans l2) (e.trans e2)
  | ok d2 s2 => exact fun ρ2 F2 H2 v2 S2 l2 e2 => h ρ2 F2 H2 v2 S2 (l.trans l2) (e.trans e2)
/-- one after the other -/
theorem Out.bind {α β ω π : Type} {R1 : List Addr → Hp → ω → α → Prop} {R2 : List Addr → Hp → π → β → Prop} {r : Res α} {k : α → Store → Res β} {Q : π → Hp → Prop} {Q' : ω → Hp → Prop} (h : Out K E R2 B ρ F env σ Q (r.bind k))
    (hk : ∀ d st' ρ' F' H' v, Sim K B ρ' F' env st' σ H' → Lg ρ ρ' → Same F F' → R1 ρ' F' v d → Out K E R2 B ρ' F' env σ Q (k d st') → Q' v H') : Out K E R1 B ρ F env σ Q' r := by
  cases r with
  | no => exact h
  | err c fs s => exact h
  | ok d s => exact fun ρ1 F1 H1 v S l e rv => hk d s ρ1 F1 H1 v S l e rv (Out.on (show Out K E R2 B ρ F env σ Q (k d s) from h) l e)
theorem Out.ret {α ω : Type} {R : List Addr → Hp → ω → α → Prop} {Q : ω → Hp → Prop} {d : α} {v : ω} (S : Sim K B ρ F env st σ H) (h : Out K E R B ρ F env σ Q (.ok d st)) (r : R ρ F v d) : Q v H := h ρ F H v S (.refl _) (.refl _) r
end

/-! ### where a body stands -/
structure Ga where
  P : Program
  w : World
  K : PySem.W.Frag
  mg : Str → Option Value
  base : Heap
  N : List Str
  sc : Scope
  fn : Str → Bool
  k : Nat
  E : WX
structure Mt (Γ : Ga) (X : Cx) : Prop where
  P : X.prog = Γ.P
  w : X.w = Γ.w
  K : X.K = Γ.K
  mg : X.mg = Γ.mg
  base : X.base = Γ.base
  N : X.N = Γ.N
  sc : X.env.scope = Γ.sc
  fn : ∀ x, Γ.fn x = true → X.fn x = true
  calm : X.calm = true
  room : Room Γ.k X.A
  own : PassesOwn (model X.prog X.w) X.A X.env X.xe
  tk : Takes X Γ.E
  stk : Γ.fn "" = true → X.stack = X.env :: X.outer ∧ X.env.frame = some X.env.locals
structure DE (Γ : Ga) (e : Expr) (f : FE) : Prop where
  run : ∃ t, (∀ X, Mt Γ X → PE X e t) ∧ SndE Γ.K Γ.E t f
structure DT (Γ : Ga) (e : Expr) (f : FT) : Prop where
  run : ∃ t, (∀ X, Mt Γ X → PT X e t) ∧ SndT Γ.K Γ.E t f
structure DA (Γ : Ga) (es : List Expr) (f : FA) : Prop where
  run : ∃ t, (∀ X, Mt Γ X → PA X es t) ∧ SndA Γ.K Γ.E t f
/-- an operator on values -/
abbrev O2 := Env → Store → D → D → Res D
def SndO (K : PySem.W.Frag) (E : WX) (r : R2) (o : O2) : Prop := ∀ B ρ F env st σ H Q x y dx dy, Sim K B ρ F env st σ H → RpV K ρ F env σ x dx → RpV K ρ F env σ y dy → OutE K E B ρ F env σ Q (o env st dx dy) → r x y H Q
structure DO (Γ : Ga) (fv : Value → Value → Sem Value) (o : O2) : Prop where
  run : ∃ r, (∀ X, Mt Γ X → OpR X fv r) ∧ SndO Γ.K Γ.E r o
def bin (o : O2) (fa fb : FE) : FE := fun env st => (fa env st).bind fun x s1 => (fb env s1).bind fun y s2 => o env s2 x y
theorem snd_op {K : PySem.W.Frag} {E : WX} {r : R2} {o : O2} {ta tb : TE} {fa fb : FE} (hr : SndO K E r o) (ha : SndE K E ta fa) (hb : SndE K E tb fb) : SndE K E (tOp r ta tb) (bin o fa fb) := fun B ρ F env st σ H Q S h =>
  ha B ρ F env st σ H _ S (Out.bind h fun d s1 ρ1 F1 H1 v S1 l1 e1 r1 h1 =>
    hb B ρ1 F1 env s1 σ H1 _ S1 (Out.bind h1 fun d2 s2 ρ2 F2 H2 v2 S2 l2 e2 r2 h2 =>
      hr B ρ2 F2 env s2 σ H2 Q v v2 d d2 S2 (r1.mono l2 e2) r2 h2))
section
variable {Γ : Ga} {a b c : Expr} {fa fb fc : FE} {pos : Pos}
theorem de_op {op : Operator} {o : O2} (ho : DO Γ (binaryOp op) o) (ha : DE Γ a fa) (hb : DE Γ b fb) : DE Γ (.BinOp a op b pos) (bin o fa fb) := by
  obtain ⟨r, hr, so⟩ := ho.run
  obtain ⟨ta, pa, sa⟩ := ha.run
  obtain ⟨tb, pb, sb⟩ := hb.run
  exact ⟨_, fun X m => pe_op (hr X m) (pa X m) (pb X m), snd_op so sa sb⟩
theorem de_cmp {op : CmpOp} {o : O2} (ho : DO Γ (compareOp op) o) (ha : DE Γ a fa) (hb : DE Γ b fb) (hm : behindInMarks op b = false) : DE Γ (.Compare a [op] [b] pos) (bin o fa fb) := by
  obtain ⟨r, hr, so⟩ := ho.run
  obtain ⟨ta, pa, sa⟩ := ha.run
  obtain ⟨tb, pb, sb⟩ := hb.run
  exact ⟨_, fun X m => pe_cmpR (hr X m) (pa X m) (pb X m) hm, snd_op so sa sb⟩
def vr (i : Nat) : FE := fun env st => match env[i]? with
  | some (.fz d) => .ok d st
  | some (.ol _) => .ok (.sl i) st
  | some (.od _) => .ok (.sl i) st
  | _ => .no
theorem snd_var {K : PySem.W.Frag} {E : WX} {i : Nat} : SndE K E (tVar i) (vr i) := fun B ρ F env st σ H Q S h => by
  unfold vr at h
  split at h
  · rename_i d hi
    obtain ⟨v, h1, h2⟩ := S.sl i _ hi
    exact ⟨v, h1, h.ret S (.inl h2)⟩
  · rename_i xs hi
    obtain ⟨a, vs, h1, h2⟩ := S.sl i _ hi
    exact ⟨_, h1, h.ret S (.inr ⟨i, a, _, rfl, hi, rfl, h1, rfl⟩)⟩
  · rename_i xs hi
    obtain ⟨a, vs, h1, h2⟩ := S.sl i _ hi
    exact ⟨_, h1, h.ret S (.inr ⟨i, a, _, rfl, hi, rfl, h1, rfl⟩)⟩
  · exact h.elim
theorem dv (i : Nat) {x : Str} (hN : Γ.N[i]? = some x := by rfl) (hv : Vis Γ.sc x := by first | exact Or.inl rfl | exact Or.inr (Or.inl rfl) | exact Or.inr (Or.inr rfl)) (hd : (x == ("__debug__" : Str)) = false := by decide) (hcd : (x == ("__classdict__" : Str)) = false := by decide) : DE Γ (.Name x pos) (vr i) :=
  ⟨_, fun X m => pe_var (by rw [m.N]; exact hN) (by rw [m.sc]; exact hv) hd hcd, snd_var⟩
def cst (d : D) : FE := fun _ st => .ok d st
theorem snd_c {K : PySem.W.Frag} {E : WX} {v : V} {d : D} (h : ∀ ρ F, Rp K ρ F v d) : SndE K E (tC v) (cst d) := fun B ρ F env st σ H Q S q => q.ret S (.inl (h ρ F))
theorem de_int {i j} : DE Γ (.Constant (.int i) j pos) (cst (.int i)) := ⟨_, fun X m => pe_int, snd_c fun _ _ => .int i⟩
theorem de_bl {i j} : DE Γ (.Constant (.bool i) j pos) (cst (.bl i)) := ⟨_, fun X m => pe_bl, snd_c fun _ _ => .bl i⟩
theorem de_non {j} : DE Γ (.Constant .none j pos) (cst .non) := ⟨_, fun X m => pe_non, snd_c fun _ _ => .non⟩
theorem de_str {i j} : DE Γ (.Constant (.str i) j pos) (cst (.str i)) := ⟨_, fun X m => pe_str, snd_c fun _ _ => .str i⟩
/-- a global: an int -/
theorem de_glob {x : Str} {v : V} {u : Value} {d : D} (hg : Γ.sc.names.lookup x = some .globalImplicit) (hm : Γ.mg x = some u) (r : RelV v u) (hr : ∀ ρ F, Rp Γ.K ρ F v d) (hd : (x == ("__debug__" : Str)) = false := by decide) : DE Γ (.Name x pos) (cst d) :=
  ⟨_, fun X m => pe_glob (show X.env.kindOf x = _ by unfold Env.kindOf; rw [m.sc]; exact hg) (by rw [m.mg]; exact hm) r hd, snd_c hr⟩
end
end DL
namespace DL
open PySem PySem.Spec PyProof.Rows L2

/-! ### operators -/
section
variable {Γ : Ga} {K : PySem.W.Frag} {E : WX}
/-- two ints -/
def oI (c : Int → Int → Bool) (g : Int → Int → D) : O2 := fun _ st x y => match x, y with
  | .int i, .int j => if c i j = true then .ok (g i j) st else .no
  | _, _ => .no
theorem snd_oI {C : Int → Int → Prop} {c : Int → Int → Bool} {g : Int → Int → D} {g' : Int → Int → V} (hc : ∀ i j, c i j = true → C i j) (hg : ∀ i j ρ F, c i j = true → Rp K ρ F (g' i j) (g i j)) : SndO K E (rI C g') (oI c g) := fun B ρ F env st σ H Q x y dx dy S rx ry h => by
  unfold oI at h
  split at h
  · split at h
    · rename_i i j hcc
      cases rx.int
      cases ry.int
      exact ⟨i, j, rfl, rfl, hc i j hcc, h.ret S (.inl (hg i j ρ F hcc))⟩
    · exact h.elim
  · exact h.elim
theorem snd_oI0 {c : Int → Int → Bool} {g : Int → Int → D} {g' : Int → Int → V} (hg : ∀ i j ρ F, c i j = true → Rp K ρ F (g' i j) (g i j)) : SndO K E (rI0 g') (oI c g) := fun B ρ F env st σ H Q x y dx dy S rx ry h => by
  unfold oI at h
  split at h
  · split at h
    · rename_i i j hcc
      cases rx.int
      cases ry.int
      exact ⟨i, j, rfl, rfl, h.ret S (.inl (hg i j ρ F hcc))⟩
    · exact h.elim
  · exact h.elim
abbrev yes2 : Int → Int → Bool := fun _ _ => true
abbrev oSub : O2 := oI yes2 fun i j => .int (i - j)
abbrev oLt : O2 := oI yes2 fun i j => .bl (decide (i < j))
abbrev oLe : O2 := oI yes2 fun i j => .bl (decide (i ≤ j))
abbrev oGt : O2 := oI yes2 fun i j => .bl (decide (j < i))
abbrev oGe : O2 := oI yes2 fun i j => .bl (decide (j ≤ i))
theorem do_sub : DO Γ (binaryOp .Sub) oSub := ⟨_, fun X m => op_sub, snd_oI0 fun i j _ _ _ => .int _⟩
theorem do_lt : DO Γ (compareOp .Lt) oLt := ⟨_, fun X m => op_lt, snd_oI0 fun i j _ _ _ => .bl _⟩
theorem do_le : DO Γ (compareOp .LtE) oLe := ⟨_, fun X m => op_le, snd_oI0 fun i j _ _ _ => .bl _⟩
theorem do_gt : DO Γ (compareOp .Gt) oGt := ⟨_, fun X m => op_gt, snd_oI0 fun i j _ _ _ => .bl _⟩
theorem do_ge : DO Γ (compareOp .GtE) oGe := ⟨_, fun X m => op_ge, snd_oI0 fun i j _ _ _ => .bl _⟩
/-- % by a positive number, or by a negative one (then the sign of it) -/
abbrev oMod : O2 := oI (fun _ j => decide (j ≠ 0)) fun i j => .int (i.fmod j)
theorem do_mod : DO Γ (binaryOp .Mod) oMod := ⟨_, fun X m => op_modN, snd_oI (fun i j h => of_decide_eq_true h) fun i j _ _ _ => .int _⟩
def divOk (_ j : Int) : Bool := decide (j ≠ 0 ∧ j.natAbs.log2 < 9000)
theorem op_fdivA {X : Cx} : OpR X (binaryOp .FloorDiv) (rI (fun _ j => j ≠ 0 ∧ j.natAbs.log2 < 9000) fun i j => .int (i.fdiv j)) := opI fun i j _ _ _ _ _ hc q =>
  floordiv_int hc.1 q (.inl (PyProof.noPylong_of_log2 hc.2))
abbrev oDiv : O2 := oI divOk fun i j => .int (i.fdiv j)
theorem do_div : DO Γ (binaryOp .FloorDiv) oDiv := ⟨_, fun X m => op_fdivA, snd_oI (fun i j h => of_decide_eq_true h) fun i j _ _ _ => .int _⟩
def mulOk (i j : Int) : Bool := decide (((-(2 ^ 64) < i ∧ i < 2 ^ 64) ∨ (-(2 ^ 64) < j ∧ j < 2 ^ 64)) ∨ i.natAbs.log2 + j.natAbs.log2 < 1000000)
theorem op_mulA {X : Cx} : OpR X (binaryOp .Mult) (rI (fun i j => CMul i j ∨ CMulW i j) fun i j => .int (i * j)) := opI fun _ _ _ _ _ _ _ hc q =>
  mul_int q (hc.elim (fun h => h.ok) fun h => h.ok)
/-- **: small exponents -/
def powOk (i j : Int) : Bool := decide (0 ≤ j ∧ j ≤ 1000000 ∧ i.natAbs < 2 ^ 64)
abbrev oPow : O2 := oI powOk fun i j => .int (i ^ j.toNat)
theorem do_pow : DO Γ (binaryOp .Pow) oPow := ⟨_, fun X m => op_pow, snd_oI (fun i j h => by have q : 0 ≤ j ∧ j ≤ 1000000 ∧ i.natAbs < 2 ^ 64 := of_decide_eq_true h; exact q) fun i j _ _ _ => .int _⟩
theorem SndO.or {r r' : R2} {o : O2} (h : SndO K E r o) : SndO K E (fun x y H Q => r x y H Q ∨ r' x y H Q) o := fun B ρ F env st σ H Q x y dx dy S rx ry q => .inl (h B ρ F env st σ H Q x y dx dy S rx ry q)

/-- a new list of frozen values, frozen -/
theorem ret_lst {B : Base} {ρ : List Addr} {F H : Hp} {env : Env} {st : Store} {σ : L2.St} {Q : VK} {vs : List V} {ds : List D} {p : Addr} (S : Sim K B ρ F env st σ H) (h : OutE K E B ρ F env σ Q (.ok (.lst ds) st)) (r : RpL K ρ F vs ds) (hp : H p = none) : Q (.ref p) (upd H p (.lst vs)) :=
  h ρ (upd F p (.lst vs)) _ _ (S.newF hp (fun _ => HO.noConfusion)) (.refl _) (same_new (S.noF hp)) (.inl (.lst upd_same (r.mono (.refl _) (same_new (S.noF hp)))))
theorem ret_tup {B : Base} {ρ : List Addr} {F H : Hp} {env : Env} {st : Store} {σ : L2.St} {Q : VK} {vs : List V} {ds : List D} {p : Addr} (S : Sim K B ρ F env st σ H) (h : OutE K E B ρ F env σ Q (.ok (.tup ds) st)) (r : RpL K ρ F vs ds) (hp : H p = none) : Q (.ref p) (upd H p (.tup vs)) :=
  h ρ (upd F p (.tup vs)) _ _ (S.newF hp (fun _ => HO.noConfusion)) (.refl _) (same_new (S.noF hp)) (.inl (.tup (.inl upd_same) (r.mono (.refl _) (same_new (S.noF hp)))))
theorem RpL.nil_iff {ρ : List Addr} {F : Hp} {vs : List V} {ds : List D} (r : RpL K ρ F vs ds) : vs = [] ↔ ds = [] := by
  cases r with
  | nil => simp
  | cons _ _ => simp

/-- x + y: ints, texts, tuples, lists -/
def oAdd : O2 := fun env st x y => match x, y with
  | .int i, .int j => .ok (.int (i + j)) st
  | .str a, .str b => if a.length + b.length ≤ sizeLine then .ok (.str (a ++ b)) st else .no
  | .tup xs, .tup ys => if xs.length + ys.length ≤ sizeLine then .ok (.tup (xs ++ ys)) st else .no
  | x, y => match seqL env st x, seqL env st y with
    | some xs, some ys => if xs.length + ys.length ≤ sizeLine then .ok (.lst (xs ++ ys)) st else .no
    | _, _ => .no
def rAddA (K : PySem.W.Frag) : R2 := fun x y H Q => (rI0 (fun i j => .int (i + j))) x y H Q ∨ (∃ i j, x = .str i ∧ y = .str j ∧ i.length + j.length ≤ sizeLine ∧ Q (.str (i ++ j)) H) ∨ rCatA K x y H Q ∨ rCat x y H Q
theorem op_addA {X : Cx} : OpR X (binaryOp .Add) (rAddA X.K) := OpR.or op_add (OpR.or op_add_str (OpR.or op_catA op_cat))
theorem snd_add : SndO K E (rAddA K) oAdd := fun B ρ F env st σ H Q x y dx dy S rx ry h => by
  unfold oAdd at h
  split at h
  · cases rx.int; cases ry.int
    exact .inl ⟨_, _, rfl, rfl, h.ret S (.inl (.int _))⟩
  · split at h
    · cases rx.str; cases ry.str
      exact .inr (.inl ⟨_, _, rfl, rfl, by assumption, h.ret S (.inl (.str _))⟩)
    · exact h.elim
  · split at h
    · rename_i xs ys hlen
      obtain ⟨a, vs, rfl, h1, r1⟩ := rx.tup
      obtain ⟨b, us, rfl, h2, r2⟩ := ry.tup
      refine .inr (.inr (.inl ⟨a, b, vs, us, rfl, rfl, (sqU_mono S.so.sub h1).t, (sqU_mono S.so.sub h2).t, by rw [r1.length, r2.length]; exact hlen, fun e => ?_, fun e1 e2 => ?_, fun e1 e2 p hp => ?_⟩))
      · have := r1.nil_iff.mp e; subst this
        exact h.ret S (.inl (.tup h2 r2))
      · have := r2.nil_iff.mp e2; subst this
        rw [List.append_nil] at h
        exact h.ret S (.inl (.tup h1 r1))
      · exact ret_tup S h (r1.append r2) hp
    · exact h.elim
  · split at h
    · split at h
      · rename_i xs ys hx hy hlen
        obtain ⟨a, vs, rfl, h1, r1⟩ := seqL_ok S rx hx
        obtain ⟨b, us, rfl, h2, r2⟩ := seqL_ok S ry hy
        exact .inr (.inr (.inr ⟨a, b, vs, us, rfl, rfl, h1, h2, by rw [r1.length, r2.length]; exact hlen, fun p hp => ret_lst S h (r1.append r2) hp⟩))
      · exact h.elim
    · exact h.elim
theorem do_add : DO Γ (binaryOp .Add) oAdd := ⟨_, fun X m => by rw [← m.K]; exact op_addA, snd_add⟩

/-- t * 1 is t -/
theorem tuple_mul1 (l : Addr) (its : Array Value) (n : Nat) (dd : Option Addr) (sl : Array (Option Value)) (u : Tok) :
    Meets (Builtin.«tuple.__mul__» ⟨[.ref l, .int 1 u], []⟩) (fun _ R s => s.heap.get? l = some { cls := .type "tuple", dict := dd, data := .seq its n, slots := sl } ∧ R (.ok (.ret (Value.ref l))) s) :=
  .of_wp fun prog w A R s hq => by
    obtain ⟨hp, g, d, tk, os⟩ := s
    obtain ⟨hl, hq⟩ := hq
    have f1 := AutoSeq1.idx_int
    wp_walk using wpAny_loadPart' hl
    repeat (first
      | (refine wpAny_ite_false (decide_eq_false (by decide)) ?_; wp_walk using wpAny_loadPart' hl)
      | (refine wpAny_ite_true (decide_eq_true (by simp)) ?_; wp_walk using wpAny_loadPart' hl))
    exact ⟨_, rfl, hq⟩
def rRep1 (K : PySem.W.Frag) : R2 := fun x y H Q => ∃ l xs, x = .ref l ∧ y = .int 1 ∧ SqT K H l xs ∧ Q (.ref l) H
theorem op_rep1 {X : Cx} : OpR X (binaryOp .Mult) (rRep1 X.K) := by
  intro pins s σ H x y v u Q I rx ry h
  obtain ⟨l, xs, rfl, rfl, hT, q⟩ := h
  cases rx
  obtain ⟨t, rfl⟩ := ry
  obtain ⟨its, r, ⟨⟨cls, dd, data, sl⟩, ho, hc, n, hd⟩, hs⟩ := I.tuple hT
  simp only at hc hd
  subst hc hd
  exact wpAny_binaryOp_repeat_ref (T := "tuple") (U := "int") (by decide) ⟨_, ho, rfl⟩ (fun s' => typeIs_int s' 1 t) noFill_tuple_mul F.fills_int_mul F.slot_int_rmul repeat_tuple F.slot_int_index.lookup
    (call_meets F.slot_int_rmul (typeIs_int s 1 t) F.entry_int_rmul (F.args_int_rmul_2 _ _) (int_rmul_tuple 1 t l its.toArray n dd sl)
      ⟨ho, rfl, ⟨_, ho, rfl⟩, call_meets F.slot_tuple_mul ⟨_, ho, rfl⟩ F.entry_tuple_mul (F.args_tuple_mul_2 _ _) (tuple_mul1 l its.toArray n dd sl t) ⟨ho, ⟨.ref l, H, I, rfl, q⟩⟩⟩)
/-- t * 0 is a new empty tuple -/
theorem tuple_mul0 (l : Addr) (its : Array Value) (n : Nat) (dd : Option Addr) (sl : Array (Option Value)) (u : Tok) (h0 : its.isEmpty = false) :
    Meets (Builtin.«tuple.__mul__» ⟨[.ref l, .int 0 u], []⟩) (fun _ R s => s.heap.get? l = some { cls := .type "tuple", dict := dd, data := .seq its n, slots := sl } ∧ R (.ok (.ret (Value.ref s.heap.objs.size))) { s with heap := s.heap.push { cls := Value.type "tuple", data := Data.seq #[] }, toks := s.toks }) :=
  .of_wp fun prog w A R s hq => by
    obtain ⟨hp, g, d, tk, os⟩ := s
    obtain ⟨hl, hq⟩ := hq
    have f1 := AutoSeq1.idx_int
    wp_walk using wpAny_loadPart' hl
    repeat (first
      | (refine wpAny_ite_false (decide_eq_false (by simp [h0])) ?_; wp_walk using wpAny_loadPart' hl)
      | (refine wpAny_ite_true (decide_eq_true (by simp)) ?_; wp_walk using wpAny_loadPart' hl))
    exact ⟨_, rfl, hq⟩
def rRep0 (K : PySem.W.Frag) : R2 := fun x y H Q => ∃ l xs, x = .ref l ∧ y = .int 0 ∧ SqT K H l xs ∧ xs ≠ [] ∧ ∀ p, H p = none → Q (.ref p) (upd H p (.tup []))
theorem op_rep0 {X : Cx} : OpR X (binaryOp .Mult) (rRep0 X.K) := by
  intro pins s σ H x y v u Q I rx ry h
  obtain ⟨l, xs, rfl, rfl, hT, hne, q⟩ := h
  cases rx
  obtain ⟨t, rfl⟩ := ry
  obtain ⟨its, r, ⟨⟨cls, dd, data, sl⟩, ho, hc, n, hd⟩, hs⟩ := I.tuple hT
  simp only at hc hd
  subst hc hd
  have hle : its.length = xs.length := r.length.symm
  have hi : its.toArray.isEmpty = false := by
    cases its with
    | nil => exact absurd (List.eq_nil_of_length_eq_zero hle.symm) hne
    | cons a b => rfl
  refine wpAny_binaryOp_repeat_ref (T := "tuple") (U := "int") (by decide) ⟨_, ho, rfl⟩ (fun s' => typeIs_int s' 0 t) noFill_tuple_mul F.fills_int_mul F.slot_int_rmul repeat_tuple F.slot_int_index.lookup
    (call_meets F.slot_int_rmul (typeIs_int s 0 t) F.entry_int_rmul (F.args_int_rmul_2 _ _) (int_rmul_tuple 0 t l its.toArray n dd sl)
      ⟨ho, rfl, ⟨_, ho, rfl⟩, call_meets F.slot_tuple_mul ⟨_, ho, rfl⟩ F.entry_tuple_mul (F.args_tuple_mul_2 _ _) (tuple_mul0 l its.toArray n dd sl t hi) ⟨ho, ?_⟩⟩)
  refine ⟨.ref s.heap.objs.size, _, I.laid (t' := s.toks) (o := .tup []) (fun b ob q => Heap.get?_push_of_some _ q) (Nat.le_refl _) ?_, rfl, q _ (I.hok.fresh (Nat.le_refl _))⟩
  exact ⟨Nat.zero_le _, [], Paired.nil, IsTup.new _ _⟩
def repD (n : Nat) (xs : List D) : List D := (List.replicate n xs).flatten
theorem RpL.rep {ρ : List Addr} {F : Hp} {vs : List V} {ds : List D} (r : RpL K ρ F vs ds) : ∀ n, RpL K ρ F (List.replicate n vs).flatten (repD n ds)
  | 0 => .nil
  | n + 1 => by
    unfold repD
    rw [List.replicate_succ, List.flatten_cons, List.replicate_succ, List.flatten_cons]
    exact r.append (RpL.rep r n)
/-- x * y: ints, a tuple or a list so often -/
def oMul : O2 := fun env st x y => match x, y with
  | .int i, .int j => if mulOk i j = true then .ok (.int (i * j)) st else .no
  | .tup xs, .int k => if xs ≠ [] ∧ 0 ≤ k ∧ k ≤ 1000 ∧ xs.length ≤ 1000 then .ok (.tup (repD k.toNat xs)) st else .no
  | x, .int k => match seqL env st x with
    | some xs => if 0 ≤ k ∧ k < 2 ^ 63 ∧ xs.length * k.toNat ≤ sizeLine then .ok (.lst (repD k.toNat xs)) st else .no
    | none => .no
  | _, _ => .no
def rMulA (K : PySem.W.Frag) : R2 := fun x y H Q => (rI (fun i j => CMul i j ∨ CMulW i j) (fun i j => .int (i * j))) x y H Q ∨ rRep1 K x y H Q ∨ rRepT K x y H Q ∨ rRep0 K x y H Q ∨ rRep x y H Q
theorem op_mulAll {X : Cx} : OpR X (binaryOp .Mult) (rMulA X.K) := OpR.or op_mulA (OpR.or op_rep1 (OpR.or op_repT (OpR.or op_rep0 op_rep)))
theorem snd_mul : SndO K E (rMulA K) oMul := fun B ρ F env st σ H Q x y dx dy S rx ry h => by
  unfold oMul at h
  split at h
  · split at h
    · rename_i i j hc
      cases rx.int; cases ry.int
      have hc' : ((-(2 ^ 64) < i ∧ i < 2 ^ 64) ∨ (-(2 ^ 64) < j ∧ j < 2 ^ 64)) ∨ i.natAbs.log2 + j.natAbs.log2 < 1000000 := of_decide_eq_true hc
      exact .inl ⟨_, _, rfl, rfl, hc', h.ret S (.inl (.int _))⟩
    · exact h.elim
  · split at h
    · rename_i xs k hc
      obtain ⟨a, vs, rfl, h1, r1⟩ := rx.tup
      cases ry.int
      by_cases hk : k = 1
      · subst hk
        have e : repD (1 : Int).toNat xs = xs := by simp [repD]
        rw [e] at h
        exact .inr (.inl ⟨a, vs, rfl, rfl, (sqU_mono S.so.sub h1).t, h.ret S (.inl (.tup h1 r1))⟩)
      · by_cases hk0 : k = 0
        · subst hk0
          have e : repD (0 : Int).toNat xs = [] := by simp [repD]
          rw [e] at h
          exact .inr (.inr (.inr (.inl ⟨a, vs, rfl, rfl, (sqU_mono S.so.sub h1).t, fun e => hc.1 (r1.nil_iff.mp e), fun p hp => ret_tup S h .nil hp⟩)))
        · refine .inr (.inr (.inl ⟨a, k, vs, rfl, rfl, (sqU_mono S.so.sub h1).t, fun e => hc.1 (r1.nil_iff.mp e), by omega, hc.2.2.1, by rw [r1.length]; exact hc.2.2.2, fun p hp => ret_tup S h (r1.rep _) hp⟩))
    · exact h.elim
  · split at h
    · split at h
      · rename_i xs hx hc
        obtain ⟨a, vs, rfl, h1, r1⟩ := seqL_ok S rx hx
        cases ry.int
        exact .inr (.inr (.inr (.inr ⟨a, _, vs, rfl, rfl, h1, by omega, hc.2.1, by rw [r1.length]; exact hc.2.2, fun p hp => ret_lst S h (r1.rep _) hp⟩)))
      · exact h.elim
    · exact h.elim
  · exact h.elim
theorem do_mul : DO Γ (binaryOp .Mult) oMul := ⟨_, fun X m => by rw [← m.K]; exact op_mulAll, snd_mul⟩

/-! ### data, for == -/
mutual
def D.py (env : Env) (st : Store) : D → Option PyData
  | .non => some .none
  | .bl b => some (.bool b)
  | .int i => some (.int i)
  | .str x => some (.str x)
  | .tup xs => (pyL env st xs).map .tuple
  | .lst xs => (pyL env st xs).map .list
  | _ => none
def pyL (env : Env) (st : Store) : List D → Option (List PyData)
  | [] => some []
  | x :: r => match D.py env st x, pyL env st r with
    | some a, some b => some (a :: b)
    | _, _ => none
end
/-- .. an owned list at the top -/
def pyT (env : Env) (st : Store) (d : D) : Option PyData := match seqL env st d with
  | some xs => (pyL env st xs).map .list
  | none => d.py env st
mutual
theorem py_ok {B : Base} {ρ : List Addr} {F H : Hp} {env : Env} {st : Store} {σ : L2.St} (S : Sim K B ρ F env st σ H) : ∀ (d : D) (v : V) (p : PyData), Rp K ρ F v d → d.py env st = some p → Dp K H v p
  | .non, _, _, r, e => by cases r; simp only [D.py, Option.some.injEq] at e; subst e; exact .non
  | .bl b, _, _, r, e => by cases r; simp only [D.py, Option.some.injEq] at e; subst e; exact .bl b
  | .int b, _, _, r, e => by cases r; simp only [D.py, Option.some.injEq] at e; subst e; exact .int b
  | .str b, _, _, r, e => by cases r; simp only [D.py, Option.some.injEq] at e; subst e; exact .str b
  | .tup xs, _, _, r, e => by
    cases r with
    | tup h r =>
      simp only [D.py, Option.map_eq_some_iff] at e
      obtain ⟨ps, e1, rfl⟩ := e
      exact .tup (sqU_mono S.so.sub h).t (pyL_ok S xs _ ps r e1)
  | .lst xs, _, _, r, e => by
    cases r with
    | lst h r =>
      simp only [D.py, Option.map_eq_some_iff] at e
      obtain ⟨ps, e1, rfl⟩ := e
      exact .lst (.inl (.inl (S.so.sub _ _ h))) (pyL_ok S xs _ ps r e1)
  | .scr _, _, _, _, e => by simp [D.py] at e
  | .own _, _, _, _, e => by simp [D.py] at e
  | .sl _, _, _, _, e => by simp [D.py] at e
  | .ins _ _, _, _, _, e => by simp [D.py] at e
  | .ty _, _, _, _, e => by simp [D.py] at e
  | .cls _, _, _, _, e => by simp [D.py] at e
theorem pyL_ok {B : Base} {ρ : List Addr} {F H : Hp} {env : Env} {st : Store} {σ : L2.St} (S : Sim K B ρ F env st σ H) : ∀ (ds : List D) (vs : List V) (ps : List PyData), RpL K ρ F vs ds → pyL env st ds = some ps → DpAll K H vs ps
  | [], _, _, r, e => by cases r; simp only [pyL, Option.some.injEq] at e; subst e; exact .nil
  | d :: ds, _, _, r, e => by
    cases r with
    | cons r1 r2 =>
      unfold pyL at e
      split at e
      · rename_i a b e1 e2
        cases e
        exact .cons (py_ok S d _ a r1 e1) (pyL_ok S ds _ b r2 e2)
      · cases e
end
theorem pyT_ok {B : Base} {ρ : List Addr} {F H : Hp} {env : Env} {st : Store} {σ : L2.St} {v : V} {d : D} {p : PyData} (S : Sim K B ρ F env st σ H) (r : RpV K ρ F env σ v d) (e : pyT env st d = some p) : Dp K H v p := by
  unfold pyT at e
  split at e
  · rename_i xs hx
    obtain ⟨a, vs, rfl, h1, r1⟩ := seqL_ok S r hx
    simp only [Option.map_eq_some_iff] at e
    obtain ⟨ps, e1, rfl⟩ := e
    exact .lst (.inl (.inl h1)) (pyL_ok S xs _ ps r1 e1)
  · refine py_ok S d v p (r.rp ?_) e
    cases d <;> first | rfl | (simp [D.py] at e)
def cmpD (neg : Bool) : O2 := fun env st x y => match pyT env st x, pyT env st y with
  | some a, some b => if SeqAt.shaped a = true ∧ SeqAt.shaped b = true then .ok (.bl (if neg = true then !PyData.eqv a b else PyData.eqv a b)) st else .no
  | _, _ => .no
abbrev oEq : O2 := cmpD false
abbrev oNe : O2 := cmpD true
theorem snd_eq : SndO K E (rEqD K) oEq := fun B ρ F env st σ H Q x y dx dy S rx ry h => by
  unfold oEq cmpD at h
  split at h
  · split at h
    · rename_i a b e1 e2 hc
      exact ⟨a, b, pyT_ok S rx e1, pyT_ok S ry e2, hc.1, hc.2, h.ret S (.inl (.bl _))⟩
    · exact h.elim
  · exact h.elim
theorem snd_ne : SndO K E (rNeD K) oNe := fun B ρ F env st σ H Q x y dx dy S rx ry h => by
  unfold oNe cmpD at h
  split at h
  · split at h
    · rename_i a b e1 e2 hc
      exact ⟨a, b, pyT_ok S rx e1, pyT_ok S ry e2, hc.1, hc.2, h.ret S (.inl (.bl _))⟩
    · exact h.elim
  · exact h.elim
theorem do_eq : DO Γ (compareOp .Eq) oEq := ⟨_, fun X m => by rw [← m.K]; exact op_eqD m.room.units, snd_eq⟩
theorem do_ne : DO Γ (compareOp .NotEq) oNe := ⟨_, fun X m => by rw [← m.K]; exact op_neD m.room.units, snd_ne⟩
end
end DL
namespace DL
open PySem PySem.Spec PyProof.Rows L2

section
variable {Γ : Ga} {K : PySem.W.Frag} {E : WX}
/-! ### in, is -/
def flatD : D → Option V
  | .non => some .non
  | .bl b => some (.bl b)
  | .int i => some (.int i)
  | .str x => some (.str x)
  | _ => none
def flatL : List D → Option (List V)
  | [] => some []
  | d :: r => match flatD d, flatL r with
    | some v, some vs => some (v :: vs)
    | _, _ => none
theorem flatD_ok {ρ : List Addr} {F : Hp} {v : V} {d : D} {x : V} (r : Rp K ρ F v d) (h : flatD d = some x) : v = x ∧ flatV x = true := by
  cases d <;> simp only [flatD, Option.some.injEq, reduceCtorEq] at h <;> subst h <;> cases r <;> exact ⟨rfl, rfl⟩
theorem flatL_ok {ρ : List Addr} {F : Hp} : ∀ {ds : List D} {vs xs : List V}, RpL K ρ F vs ds → flatL ds = some xs → vs = xs ∧ xs.all flatV = true
  | [], _, _, r, h => by cases r; simp only [flatL, Option.some.injEq] at h; subst h; exact ⟨rfl, rfl⟩
  | d :: ds, _, _, r, h => by
    cases r with
    | cons r1 r2 =>
      unfold flatL at h
      split at h
      · rename_i a b e1 e2
        cases h
        obtain ⟨q1, q2⟩ := flatD_ok r1 e1
        obtain ⟨q3, q4⟩ := flatL_ok r2 e2
        exact ⟨by rw [q1, q3], by rw [List.all_cons, q2, q4]; rfl⟩
      · cases h
theorem flatD_sl {d : D} {x : V} (h : flatD d = some x) : d.isSl = false := by
  cases d <;> simp [flatD] at h <;> rfl
def oInA (neg : Bool) : O2 := fun env st x y => match flatD x, seqA env st y with
  | some a, some ys => match flatL ys with
    | some bs => .ok (.bl (if neg = true then !inV a bs else inV a bs)) st
    | none => .no
  | _, _ => .no
theorem snd_in {neg : Bool} : SndO K E (rIn K neg) (oInA neg) := fun B ρ F env st σ H Q x y dx dy S rx ry h => by
  unfold oInA at h
  split at h
  · split at h
    · rename_i a ys e1 e2 _ bs e3
      obtain ⟨q1, q2⟩ := flatD_ok (rx.rp (flatD_sl e1)) e1
      obtain ⟨p, vs, rfl, h1, r1⟩ := seqA_ok S ry e2
      obtain ⟨q3, q4⟩ := flatL_ok r1 e3
      subst q1 q3
      exact ⟨p, vs, rfl, h1, q2, q4, h.ret S (.inl (.bl _))⟩
    · exact h.elim
  · exact h.elim
theorem do_in : DO Γ (compareOp .In) (oInA false) := ⟨_, fun X m => by rw [← m.K]; exact op_in_seq, snd_in⟩
theorem do_nin : DO Γ (compareOp .NotIn) (oInA true) := ⟨_, fun X m => by rw [← m.K]; exact op_notIn_seq, snd_in⟩
def D.isNon : D → Bool
  | .non => true
  | _ => false
def oIs (neg : Bool) : O2 := fun _ st x y => match y with
  | .non => .ok (.bl (if neg = true then !x.isNon else x.isNon)) st
  | _ => .no
theorem isNon_ok {ρ : List Addr} {F : Hp} {env : Env} {σ : L2.St} {v : V} {d : D} (r : RpV K ρ F env σ v d) : decide (v = .non) = d.isNon := by
  rcases r with r | ⟨_, _, _, rfl, _, _, _, rfl⟩
  · cases r <;> rfl
  · rfl
theorem snd_is : SndO K E (fun x y H Q => y = .non ∧ Q (.bl (decide (x = .non))) H) (oIs false) := fun B ρ F env st σ H Q x y dx dy S rx ry h => by
  unfold oIs at h
  split at h
  · cases ry.non
    exact ⟨rfl, h.ret S (.inl (by rw [isNon_ok rx]; exact .bl _))⟩
  · exact h.elim
theorem snd_isnt : SndO K E (fun x y H Q => y = .non ∧ Q (.bl (!decide (x = .non))) H) (oIs true) := fun B ρ F env st σ H Q x y dx dy S rx ry h => by
  unfold oIs at h
  split at h
  · cases ry.non
    exact ⟨rfl, h.ret S (.inl (by rw [isNon_ok rx]; exact .bl _))⟩
  · exact h.elim
theorem do_is : DO Γ (compareOp .Is) (oIs false) := ⟨_, fun X m => op_isN, snd_is⟩
theorem do_isnt : DO Γ (compareOp .IsNot) (oIs true) := ⟨_, fun X m => op_notN, snd_isnt⟩

/-! ### tests -/
variable {a b c : Expr} {fa fb fc : FE} {ga gb : FT} {pos : Pos} {rest : List Expr}
/-- a value that is True or False, as a test -/
def tst (f : FE) : FT := fun env st => (f env st).bind fun d s => match d with
  | .bl b => .ok b s
  | _ => .no
theorem snd_tst {t : TE} (h : SndE K E t fa) : SndT K E (tTest t) (tst fa) := fun B ρ F env st σ H Q S q =>
  h B ρ F env st σ H _ S (Out.bind q fun d s1 ρ1 F1 H1 v S1 l1 e1 r1 h1 => by
    split at h1
    · cases r1.bl
      exact ⟨_, rfl, h1.ret S1 rfl⟩
    · exact h1.elim)
theorem dt_cmp {op : CmpOp} {o : O2} (ho : DO Γ (compareOp op) o) (ha : DE Γ a fa) (hb : DE Γ b fb) (hm : behindInMarks op b = false) : DT Γ (.Compare a [op] [b] pos) (tst (bin o fa fb)) := by
  obtain ⟨r, hr, so⟩ := ho.run
  obtain ⟨ta, pa, sa⟩ := ha.run
  obtain ⟨tb, pb, sb⟩ := hb.run
  exact ⟨_, fun X m => pt_cmpR (hr X m) (pa X m) (pb X m) hm, snd_tst (snd_op so sa sb)⟩
theorem dt_val (ha : DE Γ a fa) (he : ∀ (env : PySem.Env) (whole : Sem Value), isTrue a env whole = (do let v ← whole; standAt a.pos; holding [v] (truthy v))) : DT Γ a (tst fa) := by
  obtain ⟨ta, pa, sa⟩ := ha.run
  exact ⟨_, fun X m => pt_val (pa X m) (he X.env), snd_tst sa⟩
def andT (f g : FT) : FT := fun env st => (f env st).bind fun b s => if b = true then g env s else .ok false s
def orT (f g : FT) : FT := fun env st => (f env st).bind fun b s => if b = true then .ok true s else g env s
def notT (f : FT) : FT := fun env st => (f env st).bind fun b s => .ok (!b) s
theorem snd_and {t u : TT} (h : SndT K E t ga) (h' : SndT K E u gb) : SndT K E (tAnd t u) (andT ga gb) := fun B ρ F env st σ H Q S q =>
  h B ρ F env st σ H _ S (Out.bind q fun d s1 ρ1 F1 H1 v S1 l1 e1 r1 h1 => by
    subst r1
    cases v with
    | true => exact h' B ρ1 F1 env s1 σ H1 Q S1 h1
    | false => exact h1.ret S1 rfl)
theorem snd_or {t u : TT} (h : SndT K E t ga) (h' : SndT K E u gb) : SndT K E (tOr t u) (orT ga gb) := fun B ρ F env st σ H Q S q =>
  h B ρ F env st σ H _ S (Out.bind q fun d s1 ρ1 F1 H1 v S1 l1 e1 r1 h1 => by
    subst r1
    cases v with
    | false => exact h' B ρ1 F1 env s1 σ H1 Q S1 h1
    | true => exact h1.ret S1 rfl)
theorem snd_not {t : TT} (h : SndT K E t ga) : SndT K E (tNot t) (notT ga) := fun B ρ F env st σ H Q S q =>
  h B ρ F env st σ H _ S (Out.bind q fun d s1 ρ1 F1 H1 v S1 l1 e1 r1 h1 => by
    subst r1
    exact h1.ret S1 rfl)
/-- a test whatever its whole is -/
structure DW (Γ : Ga) (e : Expr) (f : FT) : Prop where
  run : ∃ t, (∀ X, Mt Γ X → PW X e t) ∧ SndT Γ.K Γ.E t f
theorem DW.dt {e : Expr} (h : DW Γ e ga) : DT Γ e ga := by
  obtain ⟨t, p, s⟩ := h.run
  exact ⟨t, fun X m => (p X m).pt, s⟩
theorem dw_and1 (h : DT Γ a ga) : DW Γ (.BoolOp .And [a] pos) ga := by
  obtain ⟨t, p, s⟩ := h.run
  exact ⟨t, fun X m => pw_and1 (p X m), s⟩
theorem dw_or1 (h : DT Γ a ga) : DW Γ (.BoolOp .Or [a] pos) ga := by
  obtain ⟨t, p, s⟩ := h.run
  exact ⟨t, fun X m => pw_or1 (p X m), s⟩
theorem dw_and (h : DT Γ a ga) (h' : DW Γ (.BoolOp .And (b :: rest) pos) gb) : DW Γ (.BoolOp .And (a :: b :: rest) pos) (andT ga gb) := by
  obtain ⟨t, p, s⟩ := h.run
  obtain ⟨u, q, r⟩ := h'.run
  exact ⟨_, fun X m => pw_and (p X m) (q X m), snd_and s r⟩
theorem dw_or (h : DT Γ a ga) (h' : DW Γ (.BoolOp .Or (b :: rest) pos) gb) : DW Γ (.BoolOp .Or (a :: b :: rest) pos) (orT ga gb) := by
  obtain ⟨t, p, s⟩ := h.run
  obtain ⟨u, q, r⟩ := h'.run
  exact ⟨_, fun X m => pw_or (p X m) (q X m), snd_or s r⟩
theorem dt_not (h : DT Γ a ga) : DT Γ (.UnaryOp .Not a pos) (notT ga) := by
  obtain ⟨t, p, s⟩ := h.run
  exact ⟨_, fun X m => pt_not (p X m), snd_not s⟩
/-- .. as values -/
def andV (f g : FE) : FE := fun env st => (f env st).bind fun d s => match d with
  | .bl true => g env s
  | .bl false => .ok (.bl false) s
  | _ => .no
def orV (f g : FE) : FE := fun env st => (f env st).bind fun d s => match d with
  | .bl false => g env s
  | .bl true => .ok (.bl true) s
  | _ => .no
def notV (f : FE) : FE := fun env st => (f env st).bind fun d s => match d with
  | .bl b => .ok (.bl (!b)) s
  | _ => .no
theorem de_one {op} (h : DE Γ a fa) : DE Γ (.BoolOp op [a] pos) fa := by
  obtain ⟨t, p, s⟩ := h.run
  exact ⟨t, fun X m => pe_one (p X m), s⟩
theorem de_and (h : DE Γ a fa) (h' : DE Γ (.BoolOp .And (b :: rest) pos) fb) : DE Γ (.BoolOp .And (a :: b :: rest) pos) (andV fa fb) := by
  obtain ⟨t, p, s⟩ := h.run
  obtain ⟨u, q, r⟩ := h'.run
  refine ⟨_, fun X m => pe_and (p X m) (q X m), fun B ρ F env st σ H Q S hq => s B ρ F env st σ H _ S (Out.bind hq fun d s1 ρ1 F1 H1 v S1 l1 e1 r1 h1 => ?_)⟩
  split at h1
  · cases r1.bl
    exact ⟨true, rfl, r B ρ1 F1 env s1 σ H1 Q S1 h1⟩
  · cases r1.bl
    exact ⟨false, rfl, h1.ret S1 (.inl (.bl _))⟩
  · exact h1.elim
theorem de_or (h : DE Γ a fa) (h' : DE Γ (.BoolOp .Or (b :: rest) pos) fb) : DE Γ (.BoolOp .Or (a :: b :: rest) pos) (orV fa fb) := by
  obtain ⟨t, p, s⟩ := h.run
  obtain ⟨u, q, r⟩ := h'.run
  refine ⟨_, fun X m => pe_or (p X m) (q X m), fun B ρ F env st σ H Q S hq => s B ρ F env st σ H _ S (Out.bind hq fun d s1 ρ1 F1 H1 v S1 l1 e1 r1 h1 => ?_)⟩
  split at h1
  · cases r1.bl
    exact ⟨false, rfl, r B ρ1 F1 env s1 σ H1 Q S1 h1⟩
  · cases r1.bl
    exact ⟨true, rfl, h1.ret S1 (.inl (.bl _))⟩
  · exact h1.elim
theorem de_not (h : DE Γ a fa) : DE Γ (.UnaryOp .Not a pos) (notV fa) := by
  obtain ⟨t, p, s⟩ := h.run
  refine ⟨_, fun X m => pe_not (p X m), fun B ρ F env st σ H Q S hq => s B ρ F env st σ H _ S (Out.bind hq fun d s1 ρ1 F1 H1 v S1 l1 e1 r1 h1 => ?_)⟩
  split at h1
  · cases r1.bl
    exact ⟨_, rfl, h1.ret S1 (.inl (.bl _))⟩
  · exact h1.elim
def ifV (g : FT) (f1 f2 : FE) : FE := fun env st => (g env st).bind fun b s => if b = true then f1 env s else f2 env s
theorem de_if (hc : DT Γ c ga) (ha : DE Γ a fa) (hb : DE Γ b fb) : DE Γ (.IfExp c a b pos) (ifV ga fa fb) := by
  obtain ⟨t, p, s⟩ := hc.run
  obtain ⟨u, q, r⟩ := ha.run
  obtain ⟨w, q', r'⟩ := hb.run
  refine ⟨_, fun X m => pe_ifExp (p X m) (q X m) (q' X m), fun B ρ F env st σ H Q S hq => s B ρ F env st σ H _ S (Out.bind hq fun d s1 ρ1 F1 H1 v S1 l1 e1 r1 h1 => ?_)⟩
  subst r1
  cases v with
  | true => exact r B ρ1 F1 env s1 σ H1 Q S1 h1
  | false => exact r' B ρ1 F1 env s1 σ H1 Q S1 h1
def negV (f : FE) : FE := fun env st => (f env st).bind fun d s => match d with
  | .int i => .ok (.int (-i)) s
  | _ => .no
theorem de_neg (h : DE Γ a fa) : DE Γ (.UnaryOp .USub a pos) (negV fa) := by
  obtain ⟨t, p, s⟩ := h.run
  refine ⟨_, fun X m => pe_un un_neg (p X m), fun B ρ F env st σ H Q S hq => s B ρ F env st σ H _ S (Out.bind hq fun d s1 ρ1 F1 H1 v S1 l1 e1 r1 h1 => ?_)⟩
  split at h1
  · cases r1.int
    exact ⟨_, rfl, h1.ret S1 (.inl (.int _))⟩
  · exact h1.elim
/-- a op b op c -/
def chn (o o' : O2) (fa fb fc : FE) : FE := fun env st => (fa env st).bind fun x s1 => (fb env s1).bind fun y s2 => (o env s2 x y).bind fun z s3 => match z with
  | .bl true => (fc env s3).bind fun u s4 => o' env s4 y u
  | .bl false => .ok (.bl false) s3
  | _ => .no
theorem snd_chain {r r' : R2} {o o' : O2} {ta tb tc : TE} (hr : SndO K E r o) (hr' : SndO K E r' o') (ha : SndE K E ta fa) (hb : SndE K E tb fb) (hc : SndE K E tc fc) : SndE K E (tChain r r' ta tb tc) (chn o o' fa fb fc) := fun B ρ F env st σ H Q S h =>
  ha B ρ F env st σ H _ S (Out.bind h fun d s1 ρ1 F1 H1 v S1 l1 e1 r1 h1 =>
    hb B ρ1 F1 env s1 σ H1 _ S1 (Out.bind h1 fun d2 s2 ρ2 F2 H2 v2 S2 l2 e2 r2 h2 =>
      hr B ρ2 F2 env s2 σ H2 _ v v2 d d2 S2 (r1.mono l2 e2) r2 (Out.bind h2 fun z s3 ρ3 F3 H3 vz S3 l3 e3 rz h3 => by
        split at h3
        · cases rz.bl
          exact ⟨true, rfl, hc B ρ3 F3 env s3 σ H3 _ S3 (Out.bind h3 fun u s4 ρ4 F4 H4 vu S4 l4 e4 ru h4 =>
            hr' B ρ4 F4 env s4 σ H4 Q _ _ d2 u S4 ((r2.mono l3 e3).mono l4 e4) ru h4)⟩
        · cases rz.bl
          exact ⟨false, rfl, h3.ret S3 (.inl (.bl _))⟩
        · exact h3.elim)))
theorem de_chain {op op' : CmpOp} {o o' : O2} (ho : DO Γ (compareOp op) o) (ho' : DO Γ (compareOp op') o') (ha : DE Γ a fa) (hb : DE Γ b fb) (hc : DE Γ c fc) (hm : lastMarks [op, op'] [b, c] = false := by with_unfolding_all rfl) : DE Γ (.Compare a [op, op'] [b, c] pos) (chn o o' fa fb fc) := by
  obtain ⟨r, hr, so⟩ := ho.run
  obtain ⟨r', hr', so'⟩ := ho'.run
  obtain ⟨ta, pa, sa⟩ := ha.run
  obtain ⟨tb, pb, sb⟩ := hb.run
  obtain ⟨tc, pc, sc⟩ := hc.run
  exact ⟨_, fun X m => pe_chain (hr X m) (hr' X m) (pa X m) (pb X m) (pc X m) hm, snd_chain so so' sa sb sc⟩
theorem dt_chain {op op' : CmpOp} {o o' : O2} (ho : DO Γ (compareOp op) o) (ho' : DO Γ (compareOp op') o') (ha : DE Γ a fa) (hb : DE Γ b fb) (hc : DE Γ c fc) (hm : lastMarks [op, op'] [b, c] = false := by with_unfolding_all rfl) : DT Γ (.Compare a [op, op'] [b, c] pos) (tst (chn o o' fa fb fc)) := by
  obtain ⟨r, hr, so⟩ := ho.run
  obtain ⟨r', hr', so'⟩ := ho'.run
  obtain ⟨ta, pa, sa⟩ := ha.run
  obtain ⟨tb, pb, sb⟩ := hb.run
  obtain ⟨tc, pc, sc⟩ := hc.run
  exact ⟨_, fun X m => pt_chain (hr X m) (hr' X m) (pa X m) (pb X m) (pc X m) hm, snd_tst (snd_chain so so' sa sb sc)⟩

/-! ### argument lists, displays -/
variable {es : List Expr} {fs : FA}
def nilA : FA := fun _ st => .ok [] st
def consA (f : FE) (g : FA) : FA := fun env st => (f env st).bind fun d s1 => (g env s1).bind fun ds s2 => .ok (d :: ds) s2
theorem snd_nil : SndA K E tNil nilA := fun B ρ F env st σ H Q S q => q.ret S .nil
theorem snd_cons {ta : TE} {tr : TA} (h : SndE K E ta fa) (h' : SndA K E tr fs) : SndA K E (tCons ta tr) (consA fa fs) := fun B ρ F env st σ H Q S q =>
  h B ρ F env st σ H _ S (Out.bind q fun d s1 ρ1 F1 H1 v S1 l1 e1 r1 h1 =>
    h' B ρ1 F1 env s1 σ H1 _ S1 (Out.bind h1 fun ds s2 ρ2 F2 H2 vs S2 l2 e2 r2 h2 => h2.ret S2 (.cons (r1.mono l2 e2) r2)))
theorem da_nil : DA Γ [] nilA := ⟨_, fun X m => pa_nil, snd_nil⟩
theorem da_cons (h : DE Γ a fa) (h' : DA Γ es fs) (hs : ∀ env : PySem.Env, starEach (a :: es) env = (false, eval a env) :: starEach es env := by intro _; rfl) : DA Γ (a :: es) (consA fa fs) := by
  obtain ⟨t, p, s⟩ := h.run
  obtain ⟨u, q, r⟩ := h'.run
  exact ⟨_, fun X m => pa_cons (p X m) (q X m) (hs X.env), snd_cons s r⟩
def tupV (f : FA) : FE := fun env st => (f env st).bind fun ds s => if ds.length ≤ sizeLine ∧ noSl ds = true then .ok (.tup ds) s else .no
theorem de_tup {k : Nat} (h : DA Γ es fs) : DE Γ (.Tuple es k pos) (tupV fs) := by
  obtain ⟨t, p, s⟩ := h.run
  refine ⟨_, fun X m => pe_tup (p X m), fun B ρ F env st σ H Q S hq => s B ρ F env st σ H _ S (Out.bind hq fun d s1 ρ1 F1 H1 v S1 l1 e1 r1 h1 => ?_)⟩
  split at h1
  · rename_i hc
    exact ⟨by rw [r1.length]; exact hc.1, fun p hp => ret_tup S1 h1 (r1.rp hc.2) hp⟩
  · exact h1.elim

/-! ### new lists -/
abbrev FN := Env → Store → Res (List D)
/-- a list that nobody else holds -/
def RpN (K : PySem.W.Frag) (B : Base) (env : Env) (σ : L2.St) (Q : VK) (B0 : Base) (ρ : List Addr) (F : Hp) : Res (List D) → Prop
  | .ok ds st' => ∀ ρ' F' H' a vs, Sim K B ρ' F' env st' σ H' → Lg ρ ρ' → Same F F' → H' a = some (.lst vs) → F' a = none → a ∉ ρ' → ¬ OwnS env σ a → (B.H a = none ∨ B.O a) → RpL K ρ' F' vs ds → Q (.ref a) H'
  | .err _ _ _ => True
  | .no => True
def OutN (K : PySem.W.Frag) (E : WX) (B : Base) (ρ : List Addr) (F : Hp) (env : Env) (σ : L2.St) (Q : VK) : Res (List D) → Prop
  | .ok ds st' => ∀ ρ' F' H' a vs, Sim K B ρ' F' env st' σ H' → Lg ρ ρ' → Same F F' → H' a = some (.lst vs) → F' a = none → a ∉ ρ' → ¬ OwnS env σ a → (B.H a = none ∨ B.O a) → RpL K ρ' F' vs ds → Q (.ref a) H'
  | .err c fs st' => ∀ ρ' F' H' od, Sim K B ρ' F' env st' σ H' → Lg ρ ρ' → Same F F' → ExD K ρ' F' H' od fs → E (.ref c) od σ H'
  | .no => False
def SndN (K : PySem.W.Frag) (E : WX) (t : TE) (f : FN) : Prop := ∀ B ρ F env st σ H Q, Sim K B ρ F env st σ H → OutN K E B ρ F env σ Q (f env st) → t σ H Q
structure DN (Γ : Ga) (e : Expr) (f : FN) : Prop where
  run : ∃ t, (∀ X, Mt Γ X → PE X e t) ∧ SndN Γ.K Γ.E t f
/-- .. frozen -/
def frz (f : FN) : FE := fun env st => (f env st).bind fun ds s => .ok (.lst ds) s
theorem snd_frz {t : TE} {f : FN} (h : SndN K E t f) : SndE K E t (frz f) := fun B ρ F env st σ H Q S q => h B ρ F env st σ H Q S (by
  unfold frz at q
  cases hr : f env st with
  | no => rw [hr] at q; exact q
  | err c fs s => rw [hr] at q; exact q
  | ok ds s =>
    rw [hr] at q
    exact fun ρ1 F1 H1 a vs S1 l1 e1 h1 h2 h3 h4 h5 r => q ρ1 (upd F1 a (.lst vs)) H1 _ (S1.freeze h1 h2 h3 h4 h5 (fun _ => HO.noConfusion)) l1 (e1.trans (same_new h2)) (.inl (.lst upd_same (r.mono (.refl _) (same_new h2)))))
theorem de_new {e : Expr} {f : FN} (h : DN Γ e f) : DE Γ e (frz f) := by
  obtain ⟨t, p, s⟩ := h.run
  exact ⟨t, p, snd_frz s⟩
theorem OutN.on {B : Base} {ρ ρ' : List Addr} {F F' : Hp} {env : Env} {σ : L2.St} {Q : VK} {r : Res (List D)} (h : OutN K E B ρ F env σ Q r) (l : Lg ρ ρ') (e : Same F F') : OutN K E B ρ' F' env σ Q r := by
  cases r with
  | no => exact h
  | err c fs s => exact fun ρ2 F2 H2 od S2 l2 e2 => h ρ2 F2 H2 od S2 (l.trans l2) (e.trans e2)
  | ok d2 s2 => exact fun ρ2 F2 H2 v2 vs S2 l2 e2 => h ρ2 F2 H2 v2 vs S2 (l.trans l2) (e.trans e2)
theorem OutN.bind {α ω : Type} {B : Base} {ρ : List Addr} {F : Hp} {env : Env} {σ : L2.St} {R1 : List Addr → Hp → ω → α → Prop} {r : Res α} {k : α → Store → Res (List D)} {Q : VK} {Q' : ω → Hp → Prop} (h : OutN K E B ρ F env σ Q (r.bind k))
    (hk : ∀ d st' ρ' F' H' v, Sim K B ρ' F' env st' σ H' → Lg ρ ρ' → Same F F' → R1 ρ' F' v d → OutN K E B ρ' F' env σ Q (k d st') → Q' v H') : Out K E R1 B ρ F env σ Q' r := by
  cases r with
  | no => exact h
  | err c fs s => exact h
  | ok d s => exact fun ρ1 F1 H1 v S l e rv => hk d s ρ1 F1 H1 v S l e rv (OutN.on (show OutN K E B ρ F env σ Q (k d s) from h) l e)
/-- a list laid at a new place -/
theorem OutN.ret {B : Base} {ρ : List Addr} {F H : Hp} {env : Env} {st : Store} {σ : L2.St} {Q : VK} {vs : List V} {ds : List D} {p : Addr} (S : Sim K B ρ F env st σ H) (h : OutN K E B ρ F env σ Q (.ok ds st)) (r : RpL K ρ F vs ds) (hp : H p = none) : Q (.ref p) (upd H p (.lst vs)) :=
  h ρ F _ p vs (S.more (same_new hp)) (.refl _) (.refl _) upd_same (S.noF hp) (S.noρ hp) (S.noOwn hp) (S.back hp) r
def lstN (f : FA) : FN := fun env st => (f env st).bind fun ds s => if ds.length ≤ sizeLine ∧ noSl ds = true then .ok ds s else .no
theorem dn_lst (h : DA Γ es fs) : DN Γ (.List es pos) (lstN fs) := by
  obtain ⟨t, p, s⟩ := h.run
  refine ⟨_, fun X m => pe_lst (p X m), fun B ρ F env st σ H Q S hq => s B ρ F env st σ H _ S (OutN.bind hq fun d s1 ρ1 F1 H1 v S1 l1 e1 r1 h1 => ?_)⟩
  split at h1
  · rename_i hc
    exact ⟨by rw [r1.length]; exact hc.1, fun p hp => h1.ret S1 (r1.rp hc.2) hp⟩
  · exact h1.elim
end
end DL
namespace DL
open PySem PySem.Spec PyProof.Rows L2

section
variable {Γ : Ga} {K : PySem.W.Frag} {E : WX}
variable {a b c e : Expr} {fa fb fc : FE} {ga gb : FT} {pos p : Pos} {rest es : List Expr} {fs : FA}
/-! ### calls of what is built in -/
abbrev OC := Env → Store → List D → Res D
def SndC (K : PySem.W.Frag) (E : WX) (r : List V → Hp → VK → Prop) (o : OC) : Prop := ∀ B ρ F env st σ H Q vs ds, Sim K B ρ F env st σ H → RpVL K ρ F env σ vs ds → OutE K E B ρ F env σ Q (o env st ds) → r vs H Q
structure DC (Γ : Ga) (f : Value) (o : OC) : Prop where
  run : ∃ r, (∀ X, Mt Γ X → CallR X f r) ∧ SndC Γ.K Γ.E r o
def cal (o : OC) (f : FA) : FE := fun env st => (f env st).bind fun ds s => o env s ds
theorem snd_cal {r : List V → Hp → VK → Prop} {o : OC} {t : TA} (h : SndC K E r o) (ha : SndA K E t fs) : SndE K E (tCB r t) (cal o fs) := fun B ρ F env st σ H Q S q =>
  ha B ρ F env st σ H _ S (Out.bind q fun d s1 ρ1 F1 H1 v S1 l1 e1 r1 h1 => h B ρ1 F1 env s1 σ H1 Q v d S1 r1 h1)
theorem de_callB {x : Str} {id : String} {o : OC} (hc : DC Γ (.builtin id) o) (hg : Γ.sc.names.lookup x = some .globalImplicit) (hm : Γ.mg x = none) (hv : bootBuiltins x = some (.builtin id)) (ha : DA Γ (e :: es) fs) (hn : x ≠ "__name__" := by decide) (hdb : (x == ("__debug__" : Str)) = false := by decide)
    (he : ∀ env : PySem.Env, starEach (e :: es) env = (false, eval e env) :: starEach es env := by intro _; rfl) (hpl : ∀ env : PySem.Env, (backTo pos (starEach es env)).any (·.1) = false := by intro _; rfl) : DE Γ (.Call (.Name x p) (e :: es) [] pos) (cal o fs) := by
  obtain ⟨r, hr, so⟩ := hc.run
  obtain ⟨t, pa, sa⟩ := ha.run
  exact ⟨_, fun X m => pe_callB (hr X m) (show X.env.kindOf x = _ by unfold Env.kindOf; rw [m.sc]; exact hg) (by rw [m.mg]; exact hm) hv (pa X m) hn hdb (he X.env) (hpl X.env), snd_cal so sa⟩
theorem de_callTy {x : Str} {T : String} {o : OC} (hc : DC Γ (.type T) o) (hg : Γ.sc.names.lookup x = some .globalImplicit) (hm : Γ.mg x = none) (hv : bootBuiltins x = some (.type T)) (ha : DA Γ (e :: es) fs) (hn : x ≠ "__name__" := by decide) (hdb : (x == ("__debug__" : Str)) = false := by decide)
    (he : ∀ env : PySem.Env, starEach (e :: es) env = (false, eval e env) :: starEach es env := by intro _; rfl) (hpl : ∀ env : PySem.Env, (backTo pos (starEach es env)).any (·.1) = false := by intro _; rfl) : DE Γ (.Call (.Name x p) (e :: es) [] pos) (cal o fs) := by
  obtain ⟨r, hr, so⟩ := hc.run
  obtain ⟨t, pa, sa⟩ := ha.run
  exact ⟨_, fun X m => pe_callTy (hr X m) (show X.env.kindOf x = _ by unfold Env.kindOf; rw [m.sc]; exact hg) (by rw [m.mg]; exact hm) hv (pa X m) hn hdb (he X.env) (hpl X.env), snd_cal so sa⟩
/-- len of a sequence, of a text -/
def oLen : OC := fun env st ds => match ds with
  | [d] => match seqA env st d with
    | some xs => .ok (.int xs.length) st
    | none => match d with
      | .str z => if z.length ≤ sizeLine then .ok (.int z.length) st else .no
      | _ => .no
  | _ => .no
theorem RpVL.one {ρ : List Addr} {F : Hp} {env : Env} {σ : L2.St} {vs : List V} {d : D} (r : RpVL K ρ F env σ vs [d]) : ∃ v, vs = [v] ∧ RpV K ρ F env σ v d := by
  cases r with
  | cons h t => cases t; exact ⟨_, rfl, h⟩
theorem RpVL.two {ρ : List Addr} {F : Hp} {env : Env} {σ : L2.St} {vs : List V} {d d' : D} (r : RpVL K ρ F env σ vs [d, d']) : ∃ v w, vs = [v, w] ∧ RpV K ρ F env σ v d ∧ RpV K ρ F env σ w d' := by
  cases r with
  | cons h t => obtain ⟨w, rfl, h'⟩ := t.one; exact ⟨_, _, rfl, h, h'⟩
theorem snd_len : SndC K E (fun xs H Q => (∃ p ys, xs = [.ref p] ∧ (SqL K H p ys ∨ SqT K H p ys) ∧ Q (.int ys.length) H) ∨ (∃ z, xs = [.str z] ∧ z.length ≤ sizeLine ∧ Q (.int z.length) H)) oLen := fun B ρ F env st σ H Q vs ds S r h => by
  unfold oLen at h
  split at h
  · obtain ⟨v, rfl, r1⟩ := r.one
    split at h
    · rename_i d xs hx
      obtain ⟨a, vs, rfl, h1, r2⟩ := seqA_ok S r1 hx
      refine .inl ⟨a, vs, rfl, h1, ?_⟩
      rw [r2.length]
      exact h.ret S (.inl (.int _))
    · split at h
      · split at h
        · cases r1.str
          exact .inr ⟨_, rfl, by assumption, h.ret S (.inl (.int _))⟩
        · exact h.elim
      · exact h.elim
  · exact h.elim
theorem dc_len : DC Γ (.builtin "len") oLen := ⟨_, fun X m => by rw [← m.K]; exact CallR.or call_len_seq call_len_str, snd_len⟩
/-- tuple(x) -/
def oTuple : OC := fun env st ds => match ds with
  | [.tup xs] => .ok (.tup xs) st
  | [d] => match seqR env st d with
    | some xs => if noSl xs = true then .ok (.tup xs) st else .no
    | none => .no
  | _ => .no
theorem snd_tuple : SndC K E (fun xs H Q => ∃ p ys, xs = [.ref p] ∧ ((SqL K H p ys ∧ ∀ l, H l = none → Q (.ref l) (upd H l (.tup ys))) ∨ (SqT K H p ys ∧ Q (.ref p) H))) oTuple := fun B ρ F env st σ H Q vs ds S r h => by
  unfold oTuple at h
  split at h
  · obtain ⟨v, rfl, r1⟩ := r.one
    obtain ⟨a, vs, rfl, h1, r2⟩ := r1.tup
    exact ⟨a, vs, rfl, .inr ⟨(sqU_mono S.so.sub h1).t, h.ret S (.inl (.tup h1 r2))⟩⟩
  · obtain ⟨v, rfl, r1⟩ := r.one
    split at h
    · split at h
      · rename_i xs hx _
        obtain ⟨a, vs, rfl, h1, r2⟩ := seqR_ok S r1 hx
        exact ⟨a, vs, rfl, .inl ⟨h1, fun l hl => ret_tup S h r2 hl⟩⟩
      · exact h.elim
    · exact h.elim
  · exact h.elim
theorem dc_tuple : DC Γ (.type "tuple") oTuple := ⟨_, fun X m => by rw [← m.K]; exact call_tuple_of, snd_tuple⟩
/-- int(x) of an int -/
def oInt : OC := fun _ st ds => match ds with
  | [.int i] => .ok (.int i) st
  | _ => .no
theorem snd_int : SndC K E (fun xs H Q => (∃ i, xs = [.int i] ∧ Q (.int i) H) ∨ ∃ k, xs = [.bl k] ∧ Q (.int (if k then 1 else 0)) H) oInt := fun B ρ F env st σ H Q vs ds S r h => by
  unfold oInt at h
  split at h
  · obtain ⟨v, rfl, r1⟩ := r.one
    cases r1.int
    exact .inl ⟨_, rfl, h.ret S (.inl (.int _))⟩
  · exact h.elim
theorem dc_int : DC Γ (.type "int") oInt := ⟨_, fun X m => call_int1, snd_int⟩
def intsD : List D → Option (List Int)
  | [] => some []
  | .int i :: r => (intsD r).map (i :: ·)
  | _ => none
def blsD : List D → Option (List Bool)
  | [] => some []
  | .bl i :: r => (blsD r).map (i :: ·)
  | _ => none
theorem intsD_ok {ρ : List Addr} {F : Hp} : ∀ {ds : List D} {ns : List Int} {vs : List V}, intsD ds = some ns → RpL K ρ F vs ds → vs = ns.map V.int
  | [], _, _, h, r => by cases r; simp only [intsD, Option.some.injEq] at h; subst h; rfl
  | d :: ds, _, _, h, r => by
    unfold intsD at h
    split at h
    · simp_all
    · rename_i i r' e
      cases e
      cases r with
      | cons r1 r2 =>
        cases r1
        cases hr : intsD ds with
        | none => rw [hr] at h; cases h
        | some ms =>
          rw [hr] at h
          simp only [Option.map_some, Option.some.injEq] at h
          subst h
          rw [intsD_ok hr r2]; rfl
    · cases h
theorem blsD_ok {ρ : List Addr} {F : Hp} : ∀ {ds : List D} {ns : List Bool} {vs : List V}, blsD ds = some ns → RpL K ρ F vs ds → vs = ns.map V.bl
  | [], _, _, h, r => by cases r; simp only [blsD, Option.some.injEq] at h; subst h; rfl
  | d :: ds, _, _, h, r => by
    unfold blsD at h
    split at h
    · simp_all
    · rename_i i r' e
      cases e
      cases r with
      | cons r1 r2 =>
        cases r1
        cases hr : blsD ds with
        | none => rw [hr] at h; cases h
        | some ms =>
          rw [hr] at h
          simp only [Option.map_some, Option.some.injEq] at h
          subst h
          rw [blsD_ok hr r2]; rfl
    · cases h
theorem intsD_map (ns : List Int) : intsD (ns.map D.int) = some ns := by
  induction ns with
  | nil => rfl
  | cons n r ih =>
    show (intsD (r.map D.int)).map (n :: ·) = some (n :: r)
    rw [ih]; rfl
theorem blsD_map (ns : List Bool) : blsD (ns.map D.bl) = some ns := by
  induction ns with
  | nil => rfl
  | cons n r ih =>
    show (blsD (r.map D.bl)).map (n :: ·) = some (n :: r)
    rw [ih]; rfl
/-- a builtin over a list of ints, of truths -/
def oInts (g : List Int → Option Int) : OC := fun env st ds => match ds with
  | [d] => match (seqR env st d).bind intsD with
    | some ns => match g ns with
      | some z => .ok (.int z) st
      | none => .no
    | none => .no
  | _ => .no
def oBls (g : List Bool → Bool) : OC := fun env st ds => match ds with
  | [d] => match (seqR env st d).bind blsD with
    | some ns => .ok (.bl (g ns)) st
    | none => .no
  | _ => .no
theorem snd_ints {r : List V → Hp → VK → Prop} {g : List Int → Option Int} (hr : ∀ a ns z H Q, SqL K H a (ns.map V.int) → g ns = some z → Q (.int z) H → r [V.ref a] H Q) : SndC K E r (oInts g) := fun B ρ F env st σ H Q vs ds S q h => by
  unfold oInts at h
  split at h
  · obtain ⟨v, rfl, r1⟩ := q.one
    rename_i d
    cases hx : (seqR env st d).bind intsD with
    | none => rw [hx] at h; exact h.elim
    | some ns =>
      rw [hx] at h
      simp only at h
      cases hz : g ns with
      | none => rw [hz] at h; exact h.elim
      | some z =>
        rw [hz] at h
        obtain ⟨xs, h1, h2⟩ := Option.bind_eq_some_iff.mp hx
        obtain ⟨a, vs, rfl, h3, r2⟩ := seqR_ok S r1 h1
        cases intsD_ok h2 r2
        exact hr a ns z H Q h3 hz (h.ret S (.inl (.int _)))
  · exact h.elim
theorem snd_bls {r : List V → Hp → VK → Prop} {g : List Bool → Bool} (hr : ∀ a ns H Q, SqL K H a (ns.map V.bl) → Q (.bl (g ns)) H → r [V.ref a] H Q) : SndC K E r (oBls g) := fun B ρ F env st σ H Q vs ds S q h => by
  unfold oBls at h
  split at h
  · obtain ⟨v, rfl, r1⟩ := q.one
    rename_i d
    cases hx : (seqR env st d).bind blsD with
    | none => rw [hx] at h; exact h.elim
    | some ns =>
      rw [hx] at h
      obtain ⟨xs, h1, h2⟩ := Option.bind_eq_some_iff.mp hx
      obtain ⟨a, vs, rfl, h3, r2⟩ := seqR_ok S r1 h1
      cases blsD_ok h2 r2
      exact hr a ns H Q h3 (h.ret S (.inl (.bl _)))
  · exact h.elim
abbrev oSum : OC := oInts fun ns => some ns.sum
abbrev oAll : OC := oBls fun bs => bs.all id
abbrev oAny : OC := oBls fun bs => bs.any id
theorem dc_sum : DC Γ (.builtin "sum") oSum := ⟨rSum Γ.K, fun X m => by rw [← m.K]; exact cr_sum m.calm, snd_ints fun a ns z H Q h e q => ⟨a, ns, rfl, h, by cases e; exact q⟩⟩
theorem dc_all : DC Γ (.builtin "all") oAll := ⟨rAll Γ.K, fun X m => by rw [← m.K]; exact cr_all m.calm, snd_bls fun a ns H Q h q => ⟨a, ns, rfl, h, q⟩⟩
theorem dc_any : DC Γ (.builtin "any") oAny := ⟨rAny Γ.K, fun X m => by rw [← m.K]; exact cr_any m.calm, snd_bls fun a ns H Q h q => ⟨a, ns, rfl, h, q⟩⟩
/-- max, min of two ints -/
def oI2 (g : Int → Int → Int) : OC := fun _ st ds => match ds with
  | [.int i, .int j] => .ok (.int (g i j)) st
  | _ => .no
theorem snd_i2 {g : Int → Int → Int} : SndC K E (fun xs H Q => ∃ i j, xs = [.int i, .int j] ∧ Q (.int (g i j)) H) (oI2 g) := fun B ρ F env st σ H Q vs ds S r h => by
  unfold oI2 at h
  split at h
  · obtain ⟨v, w, rfl, r1, r2⟩ := r.two
    cases r1.int; cases r2.int
    exact ⟨_, _, rfl, h.ret S (.inl (.int _))⟩
  · exact h.elim
abbrev oMax2 : OC := oI2 fun i j => if j > i then j else i
abbrev oMin2 : OC := oI2 fun i j => if j < i then j else i
theorem dc_max2 : DC Γ (.builtin "max") oMax2 := ⟨_, fun X m => call_max2 m.calm, snd_i2⟩
theorem dc_min2 : DC Γ (.builtin "min") oMin2 := ⟨_, fun X m => call_min2 m.calm, snd_i2⟩
/-! ### isinstance -/
/-- what is known of an own class, for isinstance -/
structure OwnC (K : PySem.W.Frag) (C : Addr) : Prop where
  cl : Cls K C
  ha : PySem.W.findIn K (.ref C) "__class__" = some (some (.builtin "object.__class__"))
  hn : PySem.W.specialIn K (.builtin "object.__class__") "__get__" = some (some (.builtin "getset_descriptor.__get__"))
  ht : PySem.W.takesIn K (.builtin "object.__class__") = some true
  hm : PySem.W.mroIn K C (.type "object") = some true
def tyD : D → Option String
  | .non => some "NoneType"
  | .bl _ => some "bool"
  | .int _ => some "int"
  | .str _ => some "str"
  | .tup _ => some "tuple"
  | .mtp _ => some "tuple"
  | .lst _ => some "list"
  | .scr _ => none
  | .sl _ => none
  | _ => none
def isiB (t c : String) : Bool := t == c || (t == "bool" && c == "int")
def known : String → Bool := fun t => t == "NoneType" || t == "bool" || t == "int" || t == "str" || t == "tuple" || t == "list"
theorem tyD_ok {B : Base} {ρ : List Addr} {F H : Hp} {env : Env} {st : Store} {σ : L2.St} {v : V} {d : D} {t : String} (S : Sim K B ρ F env st σ H) (r : RpV K ρ F env σ v d) (h : tyD d = some t) : TyX K H v (.type t) ∧ known t = true := by
  rcases r with r | ⟨i, a, s, rfl, _⟩
  · cases r <;> simp only [tyD, Option.some.injEq, reduceCtorEq] at h <;> subst h <;> refine ⟨?_, by decide⟩
    · exact .base .non
    · exact .base (.bl _)
    · exact .base (.int _)
    · exact .base (.str _)
    · rename_i q _
      exact .base (.tup (S.so.sub _ _ (SqU.at_ (K := K) q)))
    · rename_i q _
      exact .base (.lst (S.so.sub _ _ q))
    · rename_i q _
      rcases q with ⟨o, h, _⟩ | ⟨o, its, n, h1, h2, _⟩
      · exact .fTuple (S.so.sub _ _ h)
      · exact .kTuple h1 h2
  · simp [tyD] at h
theorem kit_B {t c : String} (ht : known t = true) (hc : c = "int" ∨ c = "bool" ∨ c = "tuple" ∨ c = "str" ∨ c = "list") : PySem.W.kitOne K (.type t) (.type c) = some (isiB t c) := by
  simp only [known, Bool.or_eq_true, beq_iff_eq] at ht
  rcases ht with ((((ht | ht) | ht) | ht) | ht) | ht <;> subst ht <;> rcases hc with hc | hc | hc | hc | hc <;> subst hc <;> exact kit_ty (by decide +kernel)
def clsOk : List D → Option (List String)
  | [] => some []
  | .ty n :: r => (clsOk r).map (n :: ·)
  | _ => none
def okTy (c : String) : Bool := c == "int" || c == "bool" || c == "tuple" || c == "str" || c == "list"
theorem okTy_or {c : String} (h : okTy c = true) : c = "int" ∨ c = "bool" ∨ c = "tuple" ∨ c = "str" ∨ c = "list" := by
  simp only [okTy, Bool.or_eq_true, beq_iff_eq] at h
  rcases h with (((h | h) | h) | h) | h
  · exact .inl h
  · exact .inr (.inl h)
  · exact .inr (.inr (.inl h))
  · exact .inr (.inr (.inr (.inl h)))
  · exact .inr (.inr (.inr (.inr h)))
/-- isinstance(x, T), T one of the built-in types, or a tuple of them -/
def oIsi : OC := fun _ st ds => match ds with
  | [d, .ty c] => match tyD d with
    | some t => if okTy c = true then .ok (.bl (isiB t c)) st else .no
    | none => .no
  | [d, .tup cs] => match tyD d, clsOk cs with
    | some t, some ns => if ns.all okTy = true then .ok (.bl (ns.any fun c => isiB t c)) st else .no
    | _, _ => .no
  | _ => .no
theorem clsOk_ok {ρ : List Addr} {F : Hp} : ∀ {cs : List D} {ns : List String} {vs : List V}, clsOk cs = some ns → RpL K ρ F vs cs → vs = ns.map V.ty
  | [], _, _, h, r => by cases r; simp only [clsOk, Option.some.injEq] at h; subst h; rfl
  | d :: ds, _, _, h, r => by
    unfold clsOk at h
    split at h
    · simp_all
    · rename_i i r' e
      cases e
      cases r with
      | cons r1 r2 =>
        cases r1
        cases hr : clsOk ds with
        | none => rw [hr] at h; cases h
        | some ms =>
          rw [hr] at h
          simp only [Option.map_some, Option.some.injEq] at h
          subst h
          rw [clsOk_ok hr r2]; rfl
    · cases h
theorem kitAny_ty {t : String} (ht : known t = true) : ∀ {ns : List String}, ns.all okTy = true → PySem.W.kitAny K (.type t) (ns.map Value.type) = some (ns.any fun c => isiB t c)
  | [], _ => kitAny_nil
  | c :: r, h => by
    rw [List.all_cons, Bool.and_eq_true] at h
    refine kitAny_cons (kit_B ht (okTy_or h.1)) (fun e => ?_) (fun e => ?_)
    · rw [kitAny_ty ht h.2, List.any_cons, e]; rfl
    · rw [List.any_cons, e]; rfl
theorem paired_ty : ∀ ns : List String, Paired ClsV (ns.map V.ty) (ns.map Value.type)
  | [] => .nil
  | n :: r => .cons (.ty n) (paired_ty r)
theorem vals_ty : ∀ {ns : List String} {us : List Value}, Vals (ns.map V.ty) us → us = ns.map Value.type
  | [], _, .nil => rfl
  | _ :: _, _, .cons r t => by cases r; rw [vals_ty t]; rfl
theorem snd_isi : SndC K E (fun xs H Q => rIsi K xs H Q ∨ rIsiT K xs H Q ∨ rIsiK K xs H Q) oIsi := fun B ρ F env st σ H Q vs ds S r h => by
  unfold oIsi at h
  split at h
  · obtain ⟨v, w, rfl, r1, r2⟩ := r.two
    have hw : ∀ c, RpV K ρ F env σ w (.ty c) → w = .ty c := fun c r2 => by
      rcases r2 with r2 | ⟨_, _, _, e, _⟩
      · cases r2; rfl
      · cases e
    split at h
    · rename_i t ht
      split at h
      · rename_i hc
        cases hw _ r2
        obtain ⟨q1, q2⟩ := tyD_ok S r1 ht
        exact .inl ⟨v, .ty _, _, _, _, rfl, .ty _, q1, kit_B q2 (okTy_or hc), h.ret S (.inl (.bl _))⟩
      · exact h.elim
    · exact h.elim
  · obtain ⟨v, w, rfl, r1, r2⟩ := r.two
    split at h
    · split at h
      · rename_i t ns ht hcs hc
        obtain ⟨q1, q2⟩ := tyD_ok S r1 ht
        obtain ⟨p, us, rfl, h1, r3⟩ := r2.tup
        cases clsOk_ok hcs r3
        exact .inr (.inl ⟨v, p, _, _, _, _, rfl, S.so.sub _ _ (SqU.at_ (K := K) h1), paired_ty ns, q1, kitAny_ty q2 hc, h.ret S (.inl (.bl _))⟩)
      · exact h.elim
    · exact h.elim
  · exact h.elim
theorem dc_isi : DC Γ (.builtin "isinstance") oIsi := ⟨_, fun X m => by rw [← m.K]; exact CallR.or call_isi (CallR.or call_isiT call_isiK), snd_isi⟩
end
end DL
namespace DL
open PySem PySem.Spec PyProof.Rows L2

section
variable {Γ : Ga} {K : PySem.W.Frag} {E : WX}
variable {a b c e : Expr} {fa fb fc : FE} {ga gb : FT} {pos p p2 : Pos} {rest es : List Expr} {fs : FA}
/-! ### subscripts -/
def atD (xs : List D) (i : Int) : Option D := (ixN xs.length i).bind fun j => xs[j]?
def oIx : O2 := fun env st x y => match y with
  | .int i => match seqA env st x with
    | some xs => match atD xs i with
      | some d => .ok d st
      | none => .no
    | none => match x with
      | .str z => if z.length ≤ sizeLine then match atI z.cps.toList i with
        | some c => .ok (.str ⟨#[c]⟩) st
        | none => .no
        else .no
      | _ => .no
  | _ => .no
theorem atD_ok {ρ : List Addr} {F : Hp} {vs : List V} {xs : List D} {i : Int} {d : D} (r : RpL K ρ F vs xs) (h : atD xs i = some d) : ∃ v, atI vs i = some v ∧ Rp K ρ F v d := by
  unfold atD at h
  unfold atI
  rw [r.length]
  cases e : ixN xs.length i with
  | none => rw [e] at h; cases h
  | some j =>
    rw [e] at h
    exact r.get h
def rIxA (K : PySem.W.Frag) : R2 := fun x y H Q => rIxL K x y H Q ∨ rIxT K x y H Q ∨ rIxS x y H Q
theorem snd_ix : SndO K E (rIxA K) oIx := fun B ρ F env st σ H Q x y dx dy S rx ry h => by
  unfold oIx at h
  split at h
  · cases ry.int
    split at h
    · rename_i xs hx
      split at h
      · rename_i d hd
        obtain ⟨a, vs, rfl, h1, r1⟩ := seqA_ok S rx hx
        obtain ⟨v, h2, h3⟩ := atD_ok r1 hd
        rcases h1 with h1 | h1
        · exact .inl ⟨a, vs, _, v, rfl, rfl, h1, h2, h.ret S (.inl h3)⟩
        · exact .inr (.inl ⟨a, vs, _, v, rfl, rfl, h1, h2, h.ret S (.inl h3)⟩)
      · exact h.elim
    · split at h
      · split at h
        · split at h
          · cases rx.str
            exact .inr (.inr ⟨_, _, _, rfl, rfl, by assumption, by assumption, h.ret S (.inl (.str _))⟩)
          · exact h.elim
        · exact h.elim
      · exact h.elim
  · exact h.elim
theorem de_ix (ha : DE Γ a fa) (hb : DE Γ b fb) (hs : PlainIx b := by intro _ _; rfl) : DE Γ (.Subscript a b pos) (bin oIx fa fb) := by
  obtain ⟨ta, pa, sa⟩ := ha.run
  obtain ⟨tb, pb, sb⟩ := hb.run
  refine ⟨tOp (rIxA Γ.K) ta tb, fun X m => ?_, snd_op snd_ix sa sb⟩
  have h := pe_ix (pos := pos) (r := rIxA X.K) (IxR.or ix_list (IxR.or ix_tup ix_str)) (pa X m) (pb X m) hs
  rw [m.K] at h
  exact h

/-! ### slices -/
abbrev FO := Env → Store → Res (Option Int)
structure DOp (Γ : Ga) (e : Option Expr) (f : FO) : Prop where
  run : ∃ t, (∀ X, Mt Γ X → PO X e t) ∧ ∀ B ρ F env st σ H Q, Sim Γ.K B ρ F env st σ H → Out Γ.K Γ.E (fun _ _ (a b : Option Int) => a = b) B ρ F env σ Q (f env st) → t σ H Q
def noP : FO := fun _ st => .ok none st
def someP (f : FE) : FO := fun env st => (f env st).bind fun d s => match d with
  | .int i => .ok (some i) s
  | _ => .no
theorem dop_none : DOp Γ none noP := ⟨_, fun X m => po_none, fun B ρ F env st σ H Q S h => h.ret S rfl⟩
theorem dop_some (h : DE Γ a fa) : DOp Γ (some a) (someP fa) := by
  obtain ⟨t, p, s⟩ := h.run
  refine ⟨_, fun X m => po_some (p X m), fun B ρ F env st σ H Q S hq => s B ρ F env st σ H _ S (Out.bind hq fun d s1 ρ1 F1 H1 v S1 l1 e1 r1 h1 => ?_)⟩
  split at h1
  · cases r1.int
    exact ⟨_, rfl, h1.ret S1 rfl⟩
  · exact h1.elim
def cutD (xs : List D) (lo hi : Option Int) : List D := (xs.drop (HT.sIx xs.length 0 lo)).take (HT.sIx xs.length xs.length hi - HT.sIx xs.length 0 lo)
theorem RpL.cut {ρ : List Addr} {F : Hp} {vs : List V} {xs : List D} (r : RpL K ρ F vs xs) (lo hi : Option Int) : RpL K ρ F (cutV vs lo hi) (cutD xs lo hi) := by
  unfold cutV cutD
  rw [r.length]
  exact (r.drop _).take _
def slV (f : FE) (l h : FO) : FE := fun env st => (f env st).bind fun d s1 => (l env s1).bind fun lo s2 => (h env s2).bind fun hi s3 => match d with
  | .tup xs => .ok (.tup (cutD xs lo hi)) s3
  | d => match seqL env s3 d with
    | some xs => .ok (.lst (cutD xs lo hi)) s3
    | none => .no
def rSlAll (K : PySem.W.Frag) : V → Option Int → Option Int → Hp → VK → Prop := fun x lo hi H Q => rSlA K x lo hi H Q ∨ rSlL K x lo hi H Q
theorem cutV_all {xs : List V} {lo hi : Option Int} (h : HT.sIx xs.length 0 lo = 0 ∧ HT.sIx xs.length xs.length hi = xs.length) : cutV xs lo hi = xs := by
  unfold cutV
  rw [h.1, h.2]
  simp
theorem de_slice {lo hi : Option Expr} {fl fh : FO} (ha : DE Γ a fa) (hl : DOp Γ lo fl) (hh : DOp Γ hi fh) : DE Γ (.Subscript a (.Slice lo hi none p2) pos) (slV fa fl fh) := by
  obtain ⟨t, p, s⟩ := ha.run
  obtain ⟨tl, pl, sl⟩ := hl.run
  obtain ⟨th, ph, sh⟩ := hh.run
  refine ⟨tSl (rSlAll Γ.K) t tl th, fun X m => ?_, fun B ρ F env st σ H Q S hq => s B ρ F env st σ H _ S (Out.bind hq fun d s1 ρ1 F1 H1 v S1 l1 e1 r1 h1 => sl B ρ1 F1 env s1 σ H1 _ S1 (Out.bind h1 fun l s2 ρ2 F2 H2 w S2 l2 e2 r2 h2 => sh B ρ2 F2 env s2 σ H2 _ S2 (Out.bind h2 fun h s3 ρ3 F3 H3 u S3 l3 e3 r3 h3 => ?_)))⟩
  · have h := pe_slice (pos := pos) (p2 := p2) (r := rSlAll X.K) (SlR.or sl_tupA sl_list) (p X m) (pl X m) (ph X m)
    rw [m.K] at h
    exact h
  · subst r2 r3
    have r4 := (r1.mono l2 e2).mono l3 e3
    split at h3
    · obtain ⟨q, vs, rfl, g1, g2⟩ := r4.tup
      refine .inl ⟨q, vs, rfl, (sqU_mono S3.so.sub g1).t, fun hc => ?_, fun hc p hp => ?_⟩
      · have e : cutV vs w u = vs := cutV_all hc
        have r5 := g2.cut w u
        rw [e] at r5
        exact h3.ret S3 (.inl (.tup g1 r5))
      · exact ret_tup S3 h3 (g2.cut w u) hp
    · split at h3
      · rename_i xs hx
        obtain ⟨q, vs, rfl, g1, g2⟩ := seqL_ok S3 r4 hx
        exact .inr ⟨q, vs, rfl, .inl (.inl g1), fun p hp => ret_lst S3 h3 (g2.cut w u) hp⟩
      · exact h3.elim

/-! ### fields of instances -/
theorem RpF.get {ρ : List Addr} {F : Hp} {f : Str} {d : D} : ∀ {fv : List (Str × V)} {fs : List (Str × D)}, RpF K ρ F fv fs → fs.lookup f = some d → ∃ v, fv.lookup f = some v ∧ Rp K ρ F v d
  | _, _, .nil, h => by simp at h
  | _, _, .cons (n := n) r t, h => by
    rw [List.lookup_cons] at h ⊢
    split at h
    · cases h; exact ⟨_, rfl, r⟩
    · exact t.get h
theorem RpF.none {ρ : List Addr} {F : Hp} {f : Str} : ∀ {fv : List (Str × V)} {fs : List (Str × D)}, RpF K ρ F fv fs → fs.lookup f = none → fv.lookup f = none
  | _, _, .nil, h => rfl
  | _, _, .cons (n := n) r t, h => by
    rw [List.lookup_cons] at h ⊢
    split at h
    · cases h
    · exact t.none h
/-- what is known of an instance of the class at C -/
def insD (C : Addr) (st : Store) : D → Option (List (Str × D))
  | .ins C' fs => if C' = C then some fs else none
  | .own i => match st[i]? with
    | some (.ins C' fs) => if C' = C then some fs else none
    | _ => none
  | _ => none
theorem insD_ok {B : Base} {ρ : List Addr} {F H : Hp} {env : Env} {st : Store} {σ : L2.St} {v : V} {d : D} {C : Addr} {fs : List (Str × D)} (S : Sim K B ρ F env st σ H) (r : RpV K ρ F env σ v d) (h : insD C st d = some fs) : ∃ a dx fv, v = .ref a ∧ H a = some (.ins C dx fv) ∧ H dx = some (.own a) ∧ RpF K ρ F fv fs ∧ d.isSl = false := by
  unfold insD at h
  split at h
  · split at h
    · cases h
      rename_i e
      subst e
      have := r.rp rfl
      cases this with
      | ins h1 h2 h3 => exact ⟨_, _, _, rfl, S.so.sub _ _ h1, S.so.sub _ _ h2, h3, rfl⟩
    · cases h
  · split at h
    · split at h
      · rename_i i C' fs' hi e
        cases h
        subst e
        have := r.rp rfl
        cases this with
        | own hr =>
          obtain ⟨_, dx, fv, q1, q2, _, q4⟩ := S.so.at_ _ _ _ hi hr
          exact ⟨_, _, _, rfl, q1, q2, q4, rfl⟩
      · cases h
    · cases h
  · cases h
def fldV (C : Addr) (f : Str) (g : FE) : FE := fun env st => (g env st).bind fun d s => match (insD C s d).bind (List.lookup f) with
  | some x => .ok x s
  | none => .no
theorem de_fld {C : Addr} {f : Str} (h : DE Γ a fa) (c : Cls Γ.K C) (n : NoAttr Γ.K C f) (hb : ∀ env : PySem.Env, attributeBase a f env (eval a env) = eval a env := by intro _; rfl) : DE Γ (.Attribute a f pos) (fldV C f fa) := by
  obtain ⟨t, p, s⟩ := h.run
  refine ⟨tFld Γ.K t f, fun X m => ?_, fun B ρ F env st σ H Q S hq => s B ρ F env st σ H _ S (Out.bind hq fun d s1 ρ1 F1 H1 v S1 l1 e1 r1 h1 => ?_)⟩
  · have h := pe_fld (pos := pos) (f := f) (p X m) (hb X.env)
    rw [m.K] at h
    exact h
  · cases hx : (insD C s1 d).bind (List.lookup f) with
    | none => rw [hx] at h1; exact h1.elim
    | some x =>
      rw [hx] at h1
      obtain ⟨fs, g1, g2⟩ := Option.bind_eq_some_iff.mp hx
      obtain ⟨q, dx, fv, rfl, k1, k2, k3, _⟩ := insD_ok S1 r1 g1
      obtain ⟨w, k4, k5⟩ := k3.get g2
      exact ⟨q, C, dx, fv, w, rfl, k1, c, n, k4, h1.ret S1 (.inl k5)⟩

/-! ### defs: what they promise -/
/-- what a def makes of its arguments and the store -/
abbrev Fn := List D → Store → Res D
def FOut (K : PySem.W.Frag) (E : XK) (ρ : List Addr) (F H : Hp) (Q : VK) : Res D → Prop
  | .ok d st' => ∀ ρ' F' H' v, Grow K ρ F H ρ' F' H' st' → Rp K ρ' F' v d → Q v H'
  | .err c fs st' => ∀ ρ' F' H' od, Grow K ρ F H ρ' F' H' st' → ExD K ρ' F' H' od fs → E (.ref c) od H'
  | .no => False
def spD (K : PySem.W.Frag) (n : Nat) (φ : Fn) : Sp := fun vs H Q E => vs.length = n ∧ ∃ ρ F st ds, StOk K ρ F H st ∧ RpL K ρ F vs ds ∧ FOut K E ρ F H Q (φ ds st)
theorem OutE.fout {B : Base} {ρ : List Addr} {F H : Hp} {env : Env} {st : Store} {σ : L2.St} {Q : VK} {r : Res D} (S : Sim K B ρ F env st σ H) (h : OutE K E B ρ F env σ Q r) : FOut K (WE E σ) ρ F H Q r := by
  cases r with
  | no => exact h
  | ok d st' => exact fun ρ' F' H' v G r => h ρ' F' H' v (S.grow G) G.lg G.fs (.inl r)
  | err c fs st' => exact fun ρ' F' H' od G r => h ρ' F' H' od (S.grow G) G.lg G.fs r
def app (n : Nat) (φ : Fn) (f : FA) : FE := fun env st => (f env st).bind fun ds s => if noSl ds = true ∧ ds.length = n then φ ds s else .no
theorem snd_call {n : Nat} {φ : Fn} {t : TA} (ha : SndA K E t fs) : SndE K E (tCallS (spD K n φ) (WE E) t) (app n φ fs) := fun B ρ F env st σ H Q S q =>
  ha B ρ F env st σ H _ S (Out.bind q fun d s1 ρ1 F1 H1 v S1 l1 e1 r1 h1 => by
    split at h1
    · rename_i hc
      have r2 := r1.rp hc.1
      exact ⟨by rw [r2.length]; exact hc.2, ρ1, F1, s1, d, S1.so, r2, OutE.fout S1 h1⟩
    · exact h1.elim)
/-- a def that keeps such a promise -/
def DF (Γ : Ga) (k : Nat) (f : Addr) (fd : FuncData) (ps : List Str) (n : Nat) (φ : Fn) : Prop := FnOk Γ.P Γ.w Γ.K Γ.mg Γ.base (L2.CX Γ.P Γ.w) k f fd ps (spD Γ.K n φ)
theorem DF.at {k : Nat} {f : Addr} {fd : FuncData} {ps : List Str} {n : Nat} {φ : Fn} (G : DF Γ k f fd ps n φ) {X : Cx} (m : Mt Γ X) : FnOk X.prog X.w X.K X.mg X.base (L2.CX X.prog X.w) k f fd ps (spD Γ.K n φ) := by
  rw [m.P, m.w, m.K, m.mg, m.base]
  exact G
/-! calls and new instances, what they let out told at the slots -/
section
variable {X : Cx} {CX : CXT} {k : Nat} {f C : Addr} {fd : FuncData} {ps : List Str} {sp : Sp} {E : L2.St → XK} {x m : Str} {p pos apos : Pos} {e o : Expr} {es : List Expr} {ta : TE} {t : TA}
theorem pe_callS0 (F : FnOk X.prog X.w X.K X.mg X.base CX k f fd ps sp) (hr : Room k X.A) (hg : Gl X x) (hm : X.mg x = some (.ref f)) (hk : PySem.W.keepIn X.K (.ref f) = true) (hb : Binds X.K fd ps []) (hx : ∀ σ, PassesAt CX X σ (E σ)) (hdb : (x == ("__debug__" : Str)) = false := by decide) : PE X (.Call (.Name x p) [] [] pos) (tCallS sp E tNil) := by
  refine ⟨fun pins s σ H Q I h => wpAny_Call_Name_kw (ld_glob I hg hm ?_ hdb)⟩
  exact PySem.W.callWith_K0 I.kIn hk (run_fnS (us := []) F hr hb (hx σ) I .nil h)
theorem run_makeS {pins : List (Addr × Obj)} {σ : L2.St} {H : Hp} {s : Shared} {Q : VK} {us : List Value} {vs : List V} (M : Mk X.K C f) (F : FnOk X.prog X.w X.K X.mg X.base CX k f fd ps sp) (hr : Room (k + 1) X.A) (hb : Binds X.K fd ps [])
    (hx : PassesAt CX X σ (E σ)) (I : Inv X pins σ H s) (r : Vals vs us)
    (h : ∀ x dx, H x = none → H dx = none → dx ≠ x → sp (.ref x :: vs) (upd (upd H dx (.own x)) x (.ins C dx [])) (fun v H2 => v = .non ∧ Q (.ref x) H2) (E σ)) :
    wpAny (model X.prog X.w) X.A (call (.ref C) us) (EP X pins σ Q) X.xe s := by
  have hq := h (s.heap.objs.size + 1) s.heap.objs.size (I.hok.fresh (Nat.le_succ _)) (I.hok.fresh (Nat.le_refl _)) (Nat.ne_of_lt (Nat.lt_succ_self _))
  have J := Inv.made (C := C) I
  have r2 : Vals (V.ref (s.heap.objs.size + 1) :: vs) (Value.ref (s.heap.objs.size + 1) :: us) := .cons rfl r
  have hl : (Value.ref (s.heap.objs.size + 1) :: us).length = ps.length := by rw [← r2.length]; exact F.len _ _ _ _ hq
  have b := hb _ (Value.ref (s.heap.objs.size + 1) :: us) J.kIn (by rw [List.append_nil]; exact hl)
  rw [List.append_nil] at b
  have out := F.run _ X.stack _ _ ⟨Value.ref (s.heap.objs.size + 1) :: us, []⟩ (Value.ref (s.heap.objs.size + 1) :: us) _ _ (E σ) (hr.make C us []) (J.env0.make C us []) b r2 hq
  refine wpAny_call (make_map (f := f) I.kIn M.makes M.init (beq_iff_eq.mp M.fn) (codeAny_mono out fun r s' z => ?_))
  cases r with
  | error e => exact hx pins _ _ e s' J z
  | ok fl =>
    cases fl with
    | ret u =>
      obtain ⟨v, H', J2, rv, ev, q⟩ := J.after z
      subst ev
      exact ⟨rv, V.ref (s.heap.objs.size + 1), H', J2, rfl, q⟩
    | next => exact False.elim z
    | brk => exact False.elim z
    | cont => exact False.elim z
def tMakeS (C : Addr) (sp : Sp) (E : L2.St → XK) (t : TA) : TE := fun σ H Q => t σ H fun vs H1 => ∀ x dx, H1 x = none → H1 dx = none → dx ≠ x → sp (.ref x :: vs) (upd (upd H1 dx (.own x)) x (.ins C dx [])) (fun v H2 => v = .non ∧ Q (.ref x) H2) (E σ)
theorem pe_makeS (M : Mk X.K C f) (F : FnOk X.prog X.w X.K X.mg X.base CX k f fd ps sp) (hr : Room (k + 1) X.A) (hg : Gl X x) (hm : X.mg x = some (.ref C)) (hb : Binds X.K fd ps []) (hx : ∀ σ, PassesAt CX X σ (E σ)) (ha : PA X (e :: es) t) (hdb : (x == ("__debug__" : Str)) = false := by decide)
    (he : starEach (e :: es) X.env = (false, eval e X.env) :: starEach es X.env := by rfl) (hpl : (backTo pos (starEach es X.env)).any (·.1) = false := by rfl) : PE X (.Call (.Name x p) (e :: es) [] pos) (tMakeS C sp E t) := by
  refine ⟨fun pins s σ H Q I h => wpAny_Call_Name_kw (ld_glob I hg hm ?_ hdb)⟩
  refine PySem.W.callWith_K (h₀ := X.base) I.ok.mod.kin M.kp (thn (ha.run pos pins s σ H _ I h) fun us s1 ⟨vs, H1, I1, r, q⟩ => ⟨I1.kIn, ?_⟩) he hpl
  exact run_makeS M F hr hb (hx σ) I1 r q
end
theorem de_call {x : Str} {k : Nat} {f : Addr} {fd : FuncData} {ps : List Str} {n : Nat} {φ : Fn} (G : DF Γ k f fd ps n φ) (hk : k ≤ Γ.k) (hg : Γ.sc.names.lookup x = some .globalImplicit) (hm : Γ.mg x = some (.ref f)) (hkp : PySem.W.keepIn Γ.K (.ref f) = true) (hb : Binds Γ.K fd ps []) (ha : DA Γ (e :: es) fs) (hdb : (x == ("__debug__" : Str)) = false := by decide)
    (he : ∀ env : PySem.Env, starEach (e :: es) env = (false, eval e env) :: starEach es env := by intro _; rfl) (hpl : ∀ env : PySem.Env, (backTo pos (starEach es env)).any (·.1) = false := by intro _; rfl) : DE Γ (.Call (.Name x p) (e :: es) [] pos) (app n φ fs) := by
  obtain ⟨t, pa, sa⟩ := ha.run
  exact ⟨_, fun X m => pe_callS (G.at m) (m.room.mono hk) (show X.env.kindOf x = _ by unfold Env.kindOf; rw [m.sc]; exact hg) (by rw [m.mg]; exact hm) (by rw [m.K]; exact hkp) (by rw [m.K]; exact hb) (fun σ => passAt m.tk σ) (pa X m) hdb (he X.env) (hpl X.env), snd_call sa⟩
theorem de_call0 {x : Str} {k : Nat} {f : Addr} {fd : FuncData} {ps : List Str} {φ : Fn} (G : DF Γ k f fd ps 0 φ) (hk : k ≤ Γ.k) (hg : Γ.sc.names.lookup x = some .globalImplicit) (hm : Γ.mg x = some (.ref f)) (hkp : PySem.W.keepIn Γ.K (.ref f) = true) (hb : Binds Γ.K fd ps []) (hdb : (x == ("__debug__" : Str)) = false := by decide) : DE Γ (.Call (.Name x p) [] [] pos) (app 0 φ nilA) :=
  ⟨_, fun X m => pe_callS0 (G.at m) (m.room.mono hk) (show X.env.kindOf x = _ by unfold Env.kindOf; rw [m.sc]; exact hg) (by rw [m.mg]; exact hm) (by rw [m.K]; exact hkp) (by rw [m.K]; exact hb) (fun σ => passAt m.tk σ) hdb, snd_call snd_nil⟩

/-! ### new instances -/
theorem lg_app {ρ τ : List Addr} : Lg ρ (ρ ++ τ) := fun i a h => by
  rw [List.getElem?_append_left (List.getElem?_eq_some_iff.mp h).1]
  exact h
/-- the store with the new instance -/
theorem StOk.make {ρ : List Addr} {F H : Hp} {st : Store} {C x dx : Addr} (S : StOk K ρ F H st) (hx : H x = none) (hd : H dx = none) (hne : dx ≠ x) : StOk K (ρ ++ [x]) F (upd (upd H dx (.own x)) x (.ins C dx [])) (st ++ [.ins C []]) := by
  have e1 : Same H (upd H dx (.own x)) := same_new hd
  have hx' : upd H dx (.own x) x = none := by rw [upd_ne (Ne.symm hne)]; exact hx
  have e2 : Same (upd H dx (.own x)) (upd (upd H dx (.own x)) x (.ins C dx [])) := same_new hx'
  have nF : ∀ {a}, H a = none → F a = none := fun {a} h => none_of fun u hu => by
    have := S.sub _ _ hu
    rw [h] at this; cases this
  have nρ : x ∉ ρ := fun hm => by
    obtain ⟨_, u, hu⟩ := S.there hm
    rw [hx] at hu; cases hu
  refine ⟨S.sub.trans (e1.trans e2), ?_, by simp [S.len], fun i c a h1 h2 => ?_⟩
  · rw [List.nodup_append]
    refine ⟨S.nd, by simp, fun a h1 b h2 => ?_⟩
    have : b = x := by simpa using h2
    subst this
    exact fun z => nρ (z ▸ h1)
  · by_cases hi : i < st.length
    · rw [List.getElem?_append_left hi] at h1
      rw [List.getElem?_append_left (by rw [← S.len]; exact hi)] at h2
      obtain ⟨q1, q2⟩ := S.at_ i c a h1 h2
      exact ⟨q1, (q2.mono lg_app).same (e1.trans e2)⟩
    · rw [List.getElem?_append_right (by omega)] at h1
      rw [List.getElem?_append_right (by rw [← S.len]; omega)] at h2
      rw [S.len] at h1
      cases hj : i - ρ.length with
      | zero =>
        rw [hj] at h1 h2
        simp only [List.getElem?_cons_zero, Option.some.injEq] at h1 h2
        subst h1 h2
        exact ⟨nF hx, dx, [], upd_same, by rw [upd_ne hne, upd_same], nF hd, .nil⟩
      | succ j =>
        rw [hj] at h1
        simp at h1
/-! ### data that lean on the first n addresses of the store alone -/
mutual
def D.bel (n : Nat) : D → Bool
  | .tup xs => belL n xs
  | .lst xs => belL n xs
  | .scr xs => belL n xs
  | .mtp xs => belL n xs
  | .own i => decide (i < n)
  | .ins _ fs => belF n fs
  | .dic kvs => belK n kvs
  | _ => true
def belL (n : Nat) : List D → Bool
  | [] => true
  | d :: r => d.bel n && belL n r
def belF (n : Nat) : List (Str × D) → Bool
  | [] => true
  | (_, d) :: r => d.bel n && belF n r
def belK (n : Nat) : List (List Int × D) → Bool
  | [] => true
  | (_, d) :: r => d.bel n && belK n r
end
theorem belK_map (n : Nat) : ∀ kvs : List (List Int × D), belL n (kvs.map (·.2)) = belK n kvs
  | [] => by simp [belL, belK]
  | (_, d) :: r => by simp [belL, belK, belK_map n r]
def Cell.bel (n : Nat) : Cell → Bool
  | .lst xs => belL n xs
  | .ins _ fs => belF n fs
def stBel (n : Nat) (st : Store) : Bool := st.all (Cell.bel n)
section
variable {ρ ρ' : List Addr} {F : Hp}
theorem Rp.bel (h : ∀ (i : Nat) (a : Addr), i < ρ.length → ρ'[i]? = some a → ρ[i]? = some a) : ∀ {v : V} {d : D}, Rp K ρ' F v d → d.bel ρ.length = true → Rp K ρ F v d := by
  intro v d r
  refine Rp.rec (motive_1 := fun v d _ => d.bel ρ.length = true → Rp K ρ F v d) (motive_2 := fun vs ds _ => belL ρ.length ds = true → RpL K ρ F vs ds) (motive_3 := fun vs ds _ => belF ρ.length ds = true → RpF K ρ F vs ds)
    (fun _ => .non) (fun b _ => .bl b) (fun i _ => .int i) (fun x _ => .str x) (fun n _ => .ty n) (fun C _ => .cls C) (fun h _ ih e => .tup h (ih (by simpa [D.bel] using e))) (fun h _ ih e => .lst h (ih (by simpa [D.bel] using e))) (fun h _ ih e => .scr h (ih (by simpa [D.bel] using e)))
    (fun {a i} q e => .own (h i a (by simpa [D.bel] using e) q)) (fun h hd _ ih e => .ins h hd (ih (by simpa [D.bel] using e))) (fun h _ ih e => .mtp h (ih (by simpa [D.bel] using e))) (fun h hk _ ih e => .dic h hk (ih (by rw [belK_map]; simpa [D.bel] using e))) (fun _ => .nil) (fun _ _ ih1 ih2 e => ?_) (fun _ => .nil) (fun _ _ ih1 ih2 e => ?_) r
  · rw [belL, Bool.and_eq_true] at e
    exact .cons (ih1 e.1) (ih2 e.2)
  · rw [belF, Bool.and_eq_true] at e
    exact .cons (ih1 e.1) (ih2 e.2)
theorem RpL.bel (h : ∀ (i : Nat) (a : Addr), i < ρ.length → ρ'[i]? = some a → ρ[i]? = some a) : ∀ {v : List V} {d : List D}, RpL K ρ' F v d → belL ρ.length d = true → RpL K ρ F v d
  | _, _, .nil, _ => .nil
  | _, _, .cons r t, e => by
    rw [belL, Bool.and_eq_true] at e
    exact .cons (r.bel h e.1) (t.bel h e.2)
theorem RpF.bel (h : ∀ (i : Nat) (a : Addr), i < ρ.length → ρ'[i]? = some a → ρ[i]? = some a) : ∀ {v : List (Str × V)} {d : List (Str × D)}, RpF K ρ' F v d → belF ρ.length d = true → RpF K ρ F v d
  | _, _, .nil, _ => .nil
  | _, _, .cons r t, e => by
    rw [belF, Bool.and_eq_true] at e
    exact .cons (r.bel h e.1) (t.bel h e.2)
theorem CellOk.bel {H : Hp} {a : Addr} {c : Cell} (h : ∀ (i : Nat) (a : Addr), i < ρ.length → ρ'[i]? = some a → ρ[i]? = some a) (r : CellOk K ρ' F H a c) (e : c.bel ρ.length = true) : CellOk K ρ F H a c := by
  cases c with
  | lst xs => obtain ⟨vs, h1, h2⟩ := r; exact ⟨vs, h1, h2.bel h e⟩
  | ins C fs => obtain ⟨dx, fv, h1, h2, h3, h4⟩ := r; exact ⟨dx, fv, h1, h2, h3, h4.bel h e⟩
/-- the store's first part alone -/
theorem StOk.cut {H : Hp} {st : Store} {n : Nat} (S : StOk K ρ' F H st) (l : Lg ρ ρ') (hn : ρ.length = n) (hle : n ≤ st.length) (e : stBel n (st.take n) = true) : StOk K ρ F H (st.take n) := by
  subst hn
  have back : ∀ (i : Nat) (a : Addr), i < ρ.length → ρ'[i]? = some a → ρ[i]? = some a := fun i a hi h => by
    have h1 : ρ[i]? = some ρ[i] := List.getElem?_eq_getElem hi
    have h2 := l i _ h1
    rw [h2] at h
    rw [h1]; exact h
  refine ⟨S.sub, ?_, by rw [List.length_take]; omega, fun i c a h1 h2 => ?_⟩
  · refine List.pairwise_iff_getElem.mpr fun i j hi hj hij hh => ?_
    have a1 := l i _ (List.getElem?_eq_getElem hi)
    have a2 := l j _ (List.getElem?_eq_getElem hj)
    rw [hh] at a1
    have := nd_ix S.nd a1 a2
    omega
  · have hi : i < ρ.length := (List.getElem?_eq_some_iff.mp h2).1
    have h3 : st[i]? = some c := by rw [List.getElem?_take] at h1; rw [if_pos hi] at h1; exact h1
    obtain ⟨q1, q2⟩ := S.at_ i c a h3 (l i a h2)
    exact ⟨q1, q2.bel back (List.all_eq_true.mp e c (List.mem_of_getElem? h1))⟩
end
/-- C(..), frozen at once -/
def mkF (C : Addr) (n : Nat) (φ : Fn) (f : FA) : FE := fun env st => (f env st).bind fun ds s =>
  if noSl ds = true ∧ ds.length = n then
    match φ (.own s.length :: ds) (s ++ [.ins C []]) with
    | .ok .non s' => match s'.length == s.length + 1, s'[s.length]? with
      | true, some (.ins C' fs) => if C' = C ∧ belF s.length fs = true ∧ stBel s.length (s'.take s.length) = true then .ok (.ins C fs) (s'.take s.length) else .no
      | _, _ => .no
    | .ok _ _ => .no
    | .err c fs s' => if s.length ≤ s'.length ∧ belF s.length fs = true ∧ stBel s.length (s'.take s.length) = true then .err c fs (s'.take s.length) else .no
    | .no => .no
  else .no
theorem mk_ok {B : Base} {ρ : List Addr} {F H : Hp} {env : Env} {st : Store} {σ : L2.St} {C x dx : Addr} {ρ' : List Addr} {F' H' : Hp} {s' : Store} {fs : List (Str × D)} (S : Sim K B ρ F env st σ H) (hx : H x = none) (hd : H dx = none) (hne : dx ≠ x)
    (G : Grow K (ρ ++ [x]) F (upd (upd H dx (.own x)) x (.ins C dx [])) ρ' F' H' s') (hl : s'.length = st.length + 1) (hi : s'[st.length]? = some (.ins C fs)) (hr : ∀ fv, RpF K ρ' F' fv fs → RpF K ρ F' fv fs) (hs : StOk K ρ F' H' (s'.take st.length)) :
    ∃ F2, Sim K B ρ F2 env (s'.take st.length) σ H' ∧ Same F F2 ∧ Rp K ρ F2 (.ref x) (.ins C fs) := by
  have e1 : Same H (upd H dx (.own x)) := same_new hd
  have hx' : upd H dx (.own x) x = none := by rw [upd_ne (Ne.symm hne)]; exact hx
  have e2 : Same (upd H dx (.own x)) (upd (upd H dx (.own x)) x (.ins C dx [])) := same_new hx'
  have hxr : ρ'[st.length]? = some x := G.lg _ _ (by rw [List.getElem?_append_right (by rw [S.so.len]; exact Nat.le_refl _), S.so.len]; simp)
  obtain ⟨q1, dx', fv, q2, q3, q4, q5⟩ := G.so.at_ _ _ _ hi hxr
  obtain ⟨fv', k1⟩ := G.ins x C dx [] upd_same
  rw [q2] at k1
  cases k1
  have nxd : x ≠ dx := Ne.symm hne
  have n1 : upd F' dx (.own x) x = none := by rw [upd_ne nxd]; exact q1
  have f1 : Same F' (upd F' dx (.own x)) := same_new q4
  have f2 : Same (upd F' dx (.own x)) (upd (upd F' dx (.own x)) x (.ins C dx fv)) := same_new n1
  have off : ∀ a, a ≠ x → a ≠ dx → upd (upd F' dx (.own x)) x (.ins C dx fv) a = F' a := fun a h1 h2 => by rw [upd_ne h1, upd_ne h2]
  have kp : ∀ a o, H a = some o → a ∉ ρ → H' a = some o := fun a o h hm => by
    refine G.keep a o (e2 _ _ (e1 _ _ h)) fun hh => ?_
    rcases List.mem_append.mp hh with hh | hh
    · exact hm hh
    · have : a = x := by simpa using hh
      rw [this, hx] at h; cases h
  have fn : ∀ a o, F' a = some o → (∃ u, F a = some u) ∨ H a = none ∨ ∃ xs, H a = some (.tup xs) := fun a o h => by
    rcases G.fnew a o h with h | h | ⟨xs, h⟩
    · exact .inl h
    · refine .inr (.inl ?_)
      cases e : H a with
      | none => rfl
      | some u => rw [e2 _ _ (e1 _ _ e)] at h; cases h
    · cases e : H a with
      | none => exact .inr (.inl rfl)
      | some u => rw [e2 _ _ (e1 _ _ e)] at h; exact .inr (.inr ⟨xs, h⟩)
  refine ⟨upd (upd F' dx (.own x)) x (.ins C dx fv), S.grow ⟨⟨fun a u hu => ?_, S.so.nd, hs.len, fun i c a h1 h2 => ?_⟩, .refl _, G.fs.trans (f1.trans f2), fun a o h => ?_, fun a h => .inl h, kp, fun a D1 d1 g1 h => ?_⟩, G.fs.trans (f1.trans f2), .ins upd_same (by rw [upd_ne hne, upd_same]) ((hr _ q5).mono (.refl _) (f1.trans f2))⟩
  · by_cases z : a = x
    · subst z; rw [upd_same] at hu; cases hu; exact q2
    · by_cases z2 : a = dx
      · subst z2; rw [upd_ne z, upd_same] at hu; cases hu; exact q3
      · rw [off a z z2] at hu; exact G.so.sub a u hu
  · obtain ⟨r1, r2⟩ := hs.at_ i c a h1 h2
    have ma : a ∈ ρ := List.mem_of_getElem? h2
    have nax : a ≠ x := fun z => by
      obtain ⟨_, u, hu⟩ := S.so.there ma
      rw [z, hx] at hu; cases hu
    have nad : a ≠ dx := fun z => by
      obtain ⟨_, u, hu⟩ := S.so.there ma
      rw [z, hd] at hu; cases hu
    refine ⟨by rw [off a nax nad]; exact r1, r2.monoF (f1.trans f2) fun d3 g1 g2 => ?_⟩
    have n3 : d3 ≠ x := fun z => by rw [z, q2] at g1; cases g1
    have n4 : d3 ≠ dx := fun z => by rw [z, q3] at g1; cases g1; exact nax rfl
    rw [off d3 n3 n4]; exact g2
  · by_cases z : a = x
    · exact .inr (.inl (by rw [z]; exact hx))
    · by_cases z2 : a = dx
      · exact .inr (.inl (by rw [z2]; exact hd))
      · rw [off a z z2] at h; exact fn a o h
  · exact G.ins a D1 d1 g1 (e2 _ _ (e1 _ _ h))
theorem mk_err {B : Base} {ρ : List Addr} {F H : Hp} {env : Env} {st : Store} {σ : L2.St} {C x dx : Addr} {ρ' : List Addr} {F' H' : Hp} {s' : Store} (S : Sim K B ρ F env st σ H) (hx : H x = none) (hd : H dx = none) (hne : dx ≠ x)
    (G : Grow K (ρ ++ [x]) F (upd (upd H dx (.own x)) x (.ins C dx [])) ρ' F' H' s') (hs : StOk K ρ F' H' (s'.take st.length)) : Sim K B ρ F' env (s'.take st.length) σ H' := by
  have e1 : Same H (upd H dx (.own x)) := same_new hd
  have hx' : upd H dx (.own x) x = none := by rw [upd_ne (Ne.symm hne)]; exact hx
  have e2 : Same (upd H dx (.own x)) (upd (upd H dx (.own x)) x (.ins C dx [])) := same_new hx'
  refine S.grow ⟨hs, .refl _, G.fs, fun a o h => ?_, fun a h => .inl h, fun a o h hm => ?_, fun a D1 d1 g1 h => G.ins a D1 d1 g1 (e2 _ _ (e1 _ _ h))⟩
  · rcases G.fnew a o h with h | h | ⟨xs, h⟩
    · exact .inl h
    · refine .inr (.inl ?_)
      cases e : H a with
      | none => rfl
      | some u => rw [e2 _ _ (e1 _ _ e)] at h; cases h
    · cases e : H a with
      | none => exact .inr (.inl rfl)
      | some u => rw [e2 _ _ (e1 _ _ e)] at h; exact .inr (.inr ⟨xs, h⟩)
  · refine G.keep a o (e2 _ _ (e1 _ _ h)) fun hh => ?_
    rcases List.mem_append.mp hh with hh | hh
    · exact hm hh
    · have : a = x := by simpa using hh
      rw [this, hx] at h; cases h
theorem de_mk {x : Str} {C : Addr} {k : Nat} {f : Addr} {fd : FuncData} {ps : List Str} {n : Nat} {φ : Fn} (M : Mk Γ.K C f) (G : DF Γ k f fd ps (n + 1) φ) (hk : k + 1 ≤ Γ.k) (hg : Γ.sc.names.lookup x = some .globalImplicit) (hm : Γ.mg x = some (.ref C)) (hb : Binds Γ.K fd ps []) (ha : DA Γ (e :: es) fs) (hdb : (x == ("__debug__" : Str)) = false := by decide)
    (he : ∀ env : PySem.Env, starEach (e :: es) env = (false, eval e env) :: starEach es env := by intro _; rfl) (hpl : ∀ env : PySem.Env, (backTo pos (starEach es env)).any (·.1) = false := by intro _; rfl) : DE Γ (.Call (.Name x p) (e :: es) [] pos) (mkF C n φ fs) := by
  obtain ⟨t, pa, sa⟩ := ha.run
  refine ⟨tMakeS C (spD Γ.K (n + 1) φ) (WE Γ.E) t, fun X m => pe_makeS (by rw [m.K]; exact M) (G.at m) (m.room.mono hk) (show X.env.kindOf x = _ by unfold Env.kindOf; rw [m.sc]; exact hg) (by rw [m.mg]; exact hm) (by rw [m.K]; exact hb) (fun σ => passAt m.tk σ) (pa X m) hdb (he X.env) (hpl X.env), fun B ρ F env st σ H Q S hq => sa B ρ F env st σ H _ S (Out.bind hq fun ds s1 ρ1 F1 H1 v S1 l1 e1 r1 h1 => ?_)⟩
  split at h1
  · rename_i hc
    intro x dx hx hd hne
    have e1 : Same H1 (upd H1 dx (.own x)) := same_new hd
    have hx' : upd H1 dx (.own x) x = none := by rw [upd_ne (Ne.symm hne)]; exact hx
    have e2 : Same (upd H1 dx (.own x)) (upd (upd H1 dx (.own x)) x (.ins C dx [])) := same_new hx'
    have r2 := (r1.rp hc.1).mono (ρ' := ρ1 ++ [x]) lg_app (.refl _)
    have hlen : s1.length = ρ1.length := S1.so.len
    refine ⟨by rw [List.length_cons, r2.length, hc.2], ρ1 ++ [x], F1, s1 ++ [.ins C []], .own s1.length :: ds, S1.so.make hx hd hne, .cons (.own (by rw [List.getElem?_append_right (by omega), hlen]; simp)) r2, ?_⟩
    have bk : ∀ {ρ' : List Addr}, Lg (ρ1 ++ [x]) ρ' → ∀ (i : Nat) (a : Addr), i < ρ1.length → ρ'[i]? = some a → ρ1[i]? = some a := fun {ρ'} l i a hi h => by
      have g1 : ρ1[i]? = some ρ1[i] := List.getElem?_eq_getElem hi
      have g2 := l i _ (lg_app i _ g1)
      rw [g2] at h
      rw [g1]; exact h
    cases hr : φ (.own s1.length :: ds) (s1 ++ [.ins C []]) with
    | no => rw [hr] at h1; exact h1.elim
    | err c fs s' =>
      rw [hr] at h1
      simp only at h1
      split at h1
      · rename_i hb'
        intro ρ' F' H' od G' hE
        obtain ⟨hb0, hb1, hb2⟩ := hb'
        have S2 := mk_err S1 hx hd hne G' (G'.so.cut (lg_app.trans G'.lg) hlen.symm hb0 hb2)
        refine h1 ρ1 F' H' od S2 (.refl _) G'.fs ?_
        rcases hE with ⟨q1, q2⟩ | ⟨dx, fv, q1, q2, q3⟩
        · exact .inl ⟨q1, q2⟩
        · exact .inr ⟨dx, fv, q1, q2, q3.bel (bk G'.lg) (by rw [← hlen]; exact hb1)⟩
      · exact h1.elim
    | ok d s' =>
      rw [hr] at h1
      cases d <;> simp only at h1 <;> try exact h1.elim
      split at h1
      · rename_i C' fs' hl hi
        split at h1
        · rename_i hb'
          obtain ⟨rfl, hb1, hb2⟩ := hb'
          intro ρ' F' H' v' G' hv
          have hv' : v' = .non := by cases hv; rfl
          refine ⟨hv', ?_⟩
          have hl' : s'.length = s1.length + 1 := by simpa using hl
          obtain ⟨F2, S2, f2, rr⟩ := mk_ok S1 hx hd hne G' hl' hi (fun fv r => r.bel (bk G'.lg) (by rw [← hlen]; exact hb1)) (G'.so.cut (lg_app.trans G'.lg) hlen.symm (by omega) hb2)
          exact h1 ρ1 F2 H' _ S2 (.refl _) f2 (.inl rr)
        · exact h1.elim
      · exact h1.elim
  · exact h1.elim
end
end DL
namespace DL
open PySem PySem.Spec PyProof.Rows L2

section
variable {Γ : Ga} {K : PySem.W.Frag} {E : WX}
variable {a b c e : Expr} {fa fb fc : FE} {ga gb : FT} {pos p p2 : Pos} {rest es : List Expr} {fs : FA}
variable {B : Base} {ρ ρ' : List Addr} {F F' H H' : Hp} {env env' : Env} {st st' : Store} {σ σ' : L2.St} {v : V} {d : D}
/-! ### what a statement wants -/
def OutS (K : PySem.W.Frag) (E : WX) (B : Base) (ρ : List Addr) (F : Hp) (D : Ends) : RS → Prop
  | .nx env' st' => ∀ ρ' F' σ' H', Sim K B ρ' F' env' st' σ' H' → Lg ρ ρ' → Same F F' → D.nx σ' H'
  | .rt d st' => ∀ ρ' F' env' σ' H' v, Sim K B ρ' F' env' st' σ' H' → Lg ρ ρ' → Same F F' → Rp K ρ' F' v d → D.rt v H'
  | .bk env' st' => ∀ ρ' F' σ' H', Sim K B ρ' F' env' st' σ' H' → Lg ρ ρ' → Same F F' → D.bk σ' H'
  | .ct env' st' => ∀ ρ' F' σ' H', Sim K B ρ' F' env' st' σ' H' → Lg ρ ρ' → Same F F' → D.ct σ' H'
  | .err c fs env' st' => ∀ ρ' F' σ' H' od, Sim K B ρ' F' env' st' σ' H' → Lg ρ ρ' → Same F F' → ExD K ρ' F' H' od fs → E (.ref c) od σ' H'
  | .no => False
def SndS (K : PySem.W.Frag) (E : WX) (t : TS) (f : FS) : Prop := ∀ B ρ F env st σ H D, Sim K B ρ F env st σ H → OutS K E B ρ F D (f env st) → t D σ H
structure DS (Γ : Ga) (s : Stmt) (f : FS) : Prop where
  run : ∃ t, (∀ X, Mt Γ X → PS X s t) ∧ SndS Γ.K Γ.E t f
structure DSs (Γ : Ga) (s : List Stmt) (f : FS) : Prop where
  run : ∃ t, (∀ X, Mt Γ X → PSs X s t) ∧ SndS Γ.K Γ.E t f
theorem OutS.on {D : Ends} {r : RS} (h : OutS K E B ρ F D r) (l : Lg ρ ρ') (e : Same F F') : OutS K E B ρ' F' D r := by
  cases r with
  | no => exact h
  | nx _ _ => exact fun ρ2 F2 σ2 H2 S2 l2 e2 => h ρ2 F2 σ2 H2 S2 (l.trans l2) (e.trans e2)
  | bk _ _ => exact fun ρ2 F2 σ2 H2 S2 l2 e2 => h ρ2 F2 σ2 H2 S2 (l.trans l2) (e.trans e2)
  | ct _ _ => exact fun ρ2 F2 σ2 H2 S2 l2 e2 => h ρ2 F2 σ2 H2 S2 (l.trans l2) (e.trans e2)
  | rt _ _ => exact fun ρ2 F2 e0 σ2 H2 v S2 l2 e2 => h ρ2 F2 e0 σ2 H2 v S2 (l.trans l2) (e.trans e2)
  | err _ _ _ _ => exact fun ρ2 F2 σ2 H2 od S2 l2 e2 => h ρ2 F2 σ2 H2 od S2 (l.trans l2) (e.trans e2)
/-- from an expression on -/
def Res.toS {α : Type} (r : Res α) (env : Env) (k : α → Store → RS) : RS := match r with
  | .ok a s => k a s
  | .err c fs s => .err c fs env s
  | .no => .no
theorem OutS.bind {α ω : Type} {R1 : List Addr → Hp → ω → α → Prop} {r : Res α} {k : α → Store → RS} {D : Ends} {Q' : ω → Hp → Prop} (h : OutS K E B ρ F D (r.toS env k))
    (hk : ∀ d st' ρ' F' H' v, Sim K B ρ' F' env st' σ H' → Lg ρ ρ' → Same F F' → R1 ρ' F' v d → OutS K E B ρ' F' D (k d st') → Q' v H') : Out K E R1 B ρ F env σ Q' r := by
  cases r with
  | no => exact h
  | err c fs s => exact fun ρ' F' H' od S l e x => h ρ' F' σ H' od S l e x
  | ok d s => exact fun ρ1 F1 H1 v S l e rv => hk d s ρ1 F1 H1 v S l e rv (OutS.on (show OutS K E B ρ F D (k d s) from h) l e)
theorem OutS.ret {D : Ends} (S : Sim K B ρ F env st σ H) (h : OutS K E B ρ F D (.nx env st)) : D.nx σ H := h ρ F σ H S (.refl _) (.refl _)
def seqS (f g : FS) : FS := fun env st => match f env st with
  | .nx e s => g e s
  | r => r
theorem OutS.seq {D : Ends} {r : RS} {g : FS} {u : TS} (hg : SndS K E u g) (h : OutS K E B ρ F D (match r with | .nx e s => g e s | r => r)) : OutS K E B ρ F { D with nx := u D } r := by
  cases r with
  | no => exact h
  | nx e s => exact fun ρ' F' σ' H' S l e' => hg B ρ' F' e s σ' H' D S (OutS.on (show OutS K E B ρ F D (g e s) from h) l e')
  | bk _ _ => exact h
  | ct _ _ => exact h
  | rt _ _ => exact h
  | err _ _ _ _ => exact h
variable {s : Stmt} {ss : List Stmt} {f g : FS}
def nxS : FS := fun env st => .nx env st
theorem dss_nil : DSs Γ [] nxS := ⟨_, fun X m => pss_nil, fun B ρ F env st σ H D S h => h.ret S⟩
theorem dss_one (h : DS Γ s f) : DSs Γ [s] f := by
  obtain ⟨t, p, q⟩ := h.run
  exact ⟨t, fun X m => pss_one (p X m), q⟩
theorem dss_cons (h : DS Γ s f) (h' : DSs Γ ss g) : DSs Γ (s :: ss) (seqS f g) := by
  obtain ⟨t, p, q⟩ := h.run
  obtain ⟨u, p', q'⟩ := h'.run
  exact ⟨_, fun X m => pss_cons (p X m) (p' X m), fun B ρ F env st σ H D S h => q B ρ F env st σ H _ S (OutS.seq q' h)⟩
/-- a statement that is not looked at -/
def noS : FS := fun _ _ => .no
theorem ds_never : DS Γ s noS := ⟨_, fun X m => ps_never, fun _ _ _ _ _ _ _ _ _ h => h.elim⟩
def retS (f : FE) : FS := fun env st => (f env st).toS env fun d s => if d.isSl = true then .no else .rt d s
theorem ds_ret (h : DE Γ a fa) : DS Γ (.Return (some a) pos) (retS fa) := by
  obtain ⟨t, p, q⟩ := h.run
  refine ⟨_, fun X m => ps_ret (p X m), fun B ρ F env st σ H D S h => q B ρ F env st σ H _ S (OutS.bind h fun d s1 ρ1 F1 H1 v S1 l1 e1 r1 h1 => ?_)⟩
  split at h1
  · exact h1.elim
  · rename_i hs
    exact h1 ρ1 F1 env σ H1 v S1 (.refl _) (.refl _) (r1.rp (by simpa using hs))
def retN : FS := fun env st => .rt .non st
theorem ds_retN : DS Γ (.Return none pos) retN := ⟨_, fun X m => ps_retN, fun B ρ F env st σ H D S h => h ρ F env σ H _ S (.refl _) (.refl _) .non⟩
theorem ds_pass : DS Γ (.Pass pos) nxS := ⟨_, fun X m => ps_pass, fun B ρ F env st σ H D S h => h.ret S⟩
def bkS : FS := fun env st => .bk env st
def ctS : FS := fun env st => .ct env st
theorem ds_break : DS Γ (.Break pos) bkS := ⟨_, fun X m => ps_break, fun B ρ F env st σ H D S h => h ρ F σ H S (.refl _) (.refl _)⟩
theorem ds_continue : DS Γ (.Continue pos) ctS := ⟨_, fun X m => ps_continue, fun B ρ F env st σ H D S h => h ρ F σ H S (.refl _) (.refl _)⟩
def drpS (f : FE) : FS := fun env st => (f env st).toS env fun _ s => .nx env s
theorem ds_expr (h : DE Γ a fa) (hs : ∀ env : PySem.Env, swapsWith a none pos.line env = pure false := by intro _; rfl) : DS Γ (.Expr a pos) (drpS fa) := by
  obtain ⟨t, p, q⟩ := h.run
  exact ⟨_, fun X m => ps_expr (p X m) (hs X.env), fun B ρ F env st σ H D S h => q B ρ F env st σ H _ S (OutS.bind h fun d s1 ρ1 F1 H1 v S1 l1 e1 r1 h1 => h1.ret S1)⟩
def ifS (g : FT) (f1 f2 : FS) : FS := fun env st => (g env st).toS env fun b s => if b = true then f1 env s else f2 env s
theorem ds_if {s1 s2 : List Stmt} {f1 f2 : FS} (hc : DT Γ c ga) (h1 : DSs Γ s1 f1) (h2 : DSs Γ s2 f2) : DS Γ (.If c s1 s2 pos) (ifS ga f1 f2) := by
  obtain ⟨t, p, q⟩ := hc.run
  obtain ⟨u, p1, q1⟩ := h1.run
  obtain ⟨w, p2, q2⟩ := h2.run
  refine ⟨_, fun X m => ps_if (p X m) (p1 X m) (p2 X m), fun B ρ F env st σ H D S h => q B ρ F env st σ H _ S (OutS.bind h fun d s1 ρ1 F1 H1 v S1 l1 e1 r1 h1 => ?_)⟩
  subst r1
  cases v with
  | true => exact q1 B ρ1 F1 env s1 σ H1 D S1 h1
  | false => exact q2 B ρ1 F1 env s1 σ H1 D S1 h1

/-! ### targets -/
/-- a store of a value -/
abbrev FG := D → Env → Store → RS
def OutG (K : PySem.W.Frag) (E : WX) (B : Base) (ρ : List Addr) (F : Hp) (Q : L2.St → Hp → Prop) : RS → Prop
  | .nx env' st' => ∀ ρ' F' σ' H', Sim K B ρ' F' env' st' σ' H' → Lg ρ ρ' → Same F F' → Q σ' H'
  | .err c fs env' st' => ∀ ρ' F' σ' H' od, Sim K B ρ' F' env' st' σ' H' → Lg ρ ρ' → Same F F' → ExD K ρ' F' H' od fs → E (.ref c) od σ' H'
  | _ => False
theorem OutG.on {Q : L2.St → Hp → Prop} {r : RS} (h : OutG K E B ρ F Q r) (l : Lg ρ ρ') (e : Same F F') : OutG K E B ρ' F' Q r := by
  cases r with
  | nx _ _ => exact fun ρ2 F2 σ2 H2 S2 l2 e2 => h ρ2 F2 σ2 H2 S2 (l.trans l2) (e.trans e2)
  | err _ _ _ _ => exact fun ρ2 F2 σ2 H2 od S2 l2 e2 => h ρ2 F2 σ2 H2 od S2 (l.trans l2) (e.trans e2)
  | _ => exact h
def SndG (K : PySem.W.Frag) (E : WX) (t : TG) (g : FG) : Prop := ∀ B ρ F env st σ H v d Q, Sim K B ρ F env st σ H → Rp K ρ F v d → OutG K E B ρ F Q (g d env st) → t v σ H Q
structure DG (Γ : Ga) (e : Expr) (g : FG) : Prop where
  run : ∃ t, (∀ X, Mt Γ X → PG X e t) ∧ SndG Γ.K Γ.E t g
def nmG (i : Nat) : FG := fun d env st => .nx (env.set i (.fz d)) st
theorem dg_name (i : Nat) {x : Str} (hi : Γ.N[i]? = some x := by rfl) (hN : Γ.N.Nodup := by assumption) (hx : Loc Γ.sc x := by first | exact .inl rfl | exact .inr rfl) (hf : Γ.fn x = true ∨ Γ.sc.names.lookup x = some .local := by first | exact .inl rfl | exact .inr rfl) : DG Γ (.Name x pos) (nmG i) :=
  ⟨_, fun X m => pg_name (by rw [m.N]; exact hN) (by rw [m.N]; exact hi) (by rw [m.sc]; exact hx) (hf.elim (fun h => .inl (m.fn x h)) (fun h => .inr (by rw [m.sc]; exact h))), fun B ρ F env st σ H v d Q S r h => h ρ F _ H (S.set r) (.refl _) (.refl _)⟩
abbrev FGs := List D → Env → Store → RS
structure DGs (Γ : Ga) (es : List Expr) (g : FGs) : Prop where
  run : ∃ t : TGs, (∀ X, Mt Γ X → PGs X es t) ∧ ∀ B ρ F env st σ H vs ds Q, Sim Γ.K B ρ F env st σ H → RpL Γ.K ρ F vs ds → OutG Γ.K Γ.E B ρ F Q (g ds env st) → t vs σ H Q
def nilG : FGs := fun ds env st => match ds with
  | [] => .nx env st
  | _ => .no
def consG (g : FG) (r : FGs) : FGs := fun ds env st => match ds with
  | d :: ds => match g d env st with
    | .nx e s => r ds e s
    | .err c fs e s => .err c fs e s
    | _ => .no
  | _ => .no
theorem dgs_nil : DGs Γ [] nilG := ⟨_, fun X m => pgs_nil, fun B ρ F env st σ H vs ds Q S r h => by
  cases r with
  | nil => exact ⟨rfl, h ρ F σ H S (.refl _) (.refl _)⟩
  | cons _ _ => exact h.elim⟩
theorem dgs_cons {g : FG} {r : FGs} (h : DG Γ e g) (h' : DGs Γ es r) (hs : ∀ env : PySem.Env, (assignEach (e :: es) env).map (·.2) = assign e env :: (assignEach es env).map (·.2) := by intro _; rfl) : DGs Γ (e :: es) (consG g r) := by
  obtain ⟨t, p, q⟩ := h.run
  obtain ⟨u, p', q'⟩ := h'.run
  refine ⟨_, fun X m => pgs_cons (p X m) (p' X m) (hs X.env), fun B ρ F env st σ H vs ds Q S rr h => ?_⟩
  cases rr with
  | nil => exact h.elim
  | cons r1 r2 =>
    rename_i v d vs ds
    refine ⟨v, vs, rfl, q B ρ F env st σ H v d _ S r1 ?_⟩
    have h' : OutG Γ.K Γ.E B ρ F Q (match g d env st with | .nx e s => r ds e s | .err c fs e s => .err c fs e s | _ => .no) := h
    cases hr : g d env st with
    | nx e1 s1 =>
      rw [hr] at h'
      exact fun ρ1 F1 σ1 H1 S1 l1 e2 => q' B ρ1 F1 e1 s1 σ1 H1 vs ds Q S1 (r2.mono l1 e2) (h'.on l1 e2)
    | err c fs e s => rw [hr] at h'; exact h'
    | _ => rw [hr] at h'; exact h'.elim
def tupG (n : Nat) (g : FGs) : FG := fun d env st => match d with
  | .tup ds => if ds.length = n then g ds env st else .no
  | _ => .no
theorem dg_tup {n k : Nat} {g : FGs} (h : DGs Γ es g) (hn : ∀ env : PySem.Env, (assignEach es env).length = n := by intro _; rfl) (hst : ∀ env : PySem.Env, (assignEach es env).findIdx? (·.1) = none := by intro _; rfl) : DG Γ (.Tuple es k pos) (tupG n g) := by
  obtain ⟨t, p, q⟩ := h.run
  refine ⟨gTup Γ.K n t, fun X m => ?_, fun B ρ F env st σ H v d Q S r h => ?_⟩
  · have h := pg_tup (pos := pos) (k := k) m.calm (p X m) (hn X.env) (hst X.env)
    rw [m.K] at h
    exact h
  · unfold tupG at h
    split at h
    · split at h
      · rename_i hl
        cases r with
        | tup h1 r1 => exact ⟨_, _, rfl, (sqU_mono S.so.sub h1).t, by rw [r1.length]; exact hl, q B ρ F env st σ H _ _ Q S r1 h⟩
      · exact h.elim
    · exact h.elim
/-- target = value -/
def asgS (f : FE) (g : FG) : FS := fun env st => (f env st).toS env fun d s => if d.isSl = true then .no else match g d env s with
  | .nx e s => .nx e s
  | .err c fs e s => .err c fs e s
  | _ => .no
theorem OutG.of {D : Ends} {r : RS} (h : OutS K E B ρ F D (match r with | .nx e s => .nx e s | .err c fs e s => .err c fs e s | _ => .no)) : OutG K E B ρ F D.nx r := by
  cases r with
  | nx _ _ => exact h
  | err _ _ _ _ => exact h
  | _ => exact h.elim
theorem ds_asg {tg : Expr} {g : FG} (h : DE Γ a fa) (hg : DG Γ tg g) (hs : ∀ env : PySem.Env, swapsWithSole [tg] a pos.line env = pure false := by intro _; rfl) (hw : ∀ env : PySem.Env, swappedStores [tg] a env = pure none := by intro _; rfl) (h1 : ∀ env : PySem.Env, (assignEach [tg] env).map (·.2) = [assign tg env] := by intro _; rfl) : DS Γ (.Assign [tg] a pos) (asgS fa g) := by
  obtain ⟨t, p, q⟩ := h.run
  obtain ⟨u, p', q'⟩ := hg.run
  refine ⟨_, fun X m => ps_asg (p X m) (p' X m) (hs X.env) (hw X.env) (h1 X.env), fun B ρ F env st σ H D S h => q B ρ F env st σ H _ S (OutS.bind h fun d s1 ρ1 F1 H1 v S1 l1 e1 r1 h1 => ?_)⟩
  split at h1
  · exact h1.elim
  · rename_i hs
    exact q' B ρ1 F1 env s1 σ H1 v d _ S1 (r1.rp (by simpa using hs)) (OutG.of h1)
/-- name = value -/
def setS (i : Nat) (f : FE) : FS := fun env st => (f env st).toS env fun d s => if d.isSl = true then .no else .nx (env.set i (.fz d)) s
theorem ds_set (i : Nat) {x : Str} {pos' : Pos} (h : DE Γ a fa) (hi : Γ.N[i]? = some x := by rfl) (hN : Γ.N.Nodup := by assumption) (hx : Loc Γ.sc x := by first | exact .inl rfl | exact .inr rfl) (hf : Γ.fn x = true ∨ Γ.sc.names.lookup x = some .local := by first | exact .inl rfl | exact .inr rfl)
    (hs : ∀ env : PySem.Env, env.scope = Γ.sc → swapsWith a (some (.Name x pos')) pos.line env = pure false := by intro _ _; rfl) : DS Γ (.Assign [.Name x pos'] a pos) (setS i fa) := by
  obtain ⟨t, p, q⟩ := h.run
  refine ⟨_, fun X m => ps_set (i := i) (by rw [m.N]; exact hN) (by rw [m.N]; exact hi) (by rw [m.sc]; exact hx) (p X m) (hs X.env m.sc) (hf.elim (fun h => .inl (m.fn x h)) (fun h => .inr (by rw [m.sc]; exact h))), fun B ρ F env st σ H D S h => q B ρ F env st σ H _ S (OutS.bind h fun d s1 ρ1 F1 H1 v S1 l1 e1 r1 h1 => ?_)⟩
  split at h1
  · exact h1.elim
  · rename_i hs
    exact h1 ρ1 F1 _ H1 (S1.set (r1.rp (by simpa using hs))) (.refl _) (.refl _)
/-- name = a new list, held by it alone -/
def ownS (i : Nat) (f : FN) : FS := fun env st => (f env st).toS env fun ds s => .nx (env.set i (.ol ds)) s
theorem ds_own (i : Nat) {x : Str} {pos' : Pos} {fn : FN} (h : DN Γ a fn) (hi : Γ.N[i]? = some x := by rfl) (hN : Γ.N.Nodup := by assumption) (hx : Loc Γ.sc x := by first | exact .inl rfl | exact .inr rfl) (hf : Γ.fn x = true ∨ Γ.sc.names.lookup x = some .local := by first | exact .inl rfl | exact .inr rfl)
    (hs : ∀ env : PySem.Env, env.scope = Γ.sc → swapsWith a (some (.Name x pos')) pos.line env = pure false := by intro _ _; rfl) : DS Γ (.Assign [.Name x pos'] a pos) (ownS i fn) := by
  obtain ⟨t, p, q⟩ := h.run
  refine ⟨_, fun X m => ps_set (i := i) (by rw [m.N]; exact hN) (by rw [m.N]; exact hi) (by rw [m.sc]; exact hx) (p X m) (hs X.env m.sc) (hf.elim (fun h => .inl (m.fn x h)) (fun h => .inr (by rw [m.sc]; exact h))), fun B ρ F env st σ H D S h => q B ρ F env st σ H _ S ?_⟩
  unfold ownS at h
  cases hr : fn env st with
  | no => rw [hr] at h; exact h
  | err c fs s => rw [hr] at h; exact fun ρ1 F1 H1 od S1 l1 e1 x => h ρ1 F1 σ H1 od S1 l1 e1 x
  | ok ds s =>
    rw [hr] at h
    intro ρ1 F1 H1 a vs S1 l1 e1 g1 g2 g3 g4 g5 g6
    exact h ρ1 F1 _ H1 (S1.setOwn g4 g5 (fun hlt => ⟨a, vs, by unfold OwnAt; rw [List.getElem?_set_self hlt], g2, g3, g1, g6⟩) rfl) l1 e1
/-- an owned list is frozen, ahead of a statement -/
def frzS (i : Nat) (f : FS) : FS := fun env st => match env[i]? with
  | some (.ol xs) => f (env.set i (.fz (.lst xs))) st
  | _ => .no
theorem Sim.frzSlot {i : Nat} {xs : List D} (S : Sim K B ρ F env st σ H) (hi : env[i]? = some (.ol xs)) : ∃ F', Sim K B ρ F' (env.set i (.fz (.lst xs))) st σ H ∧ Same F F' := by
  obtain ⟨a, vs, h1, h2, h3, h4, h5⟩ := S.sl _ _ hi
  have hlt : i < env.length := (List.getElem?_eq_some_iff.mp hi).1
  have S1 : Sim K B ρ F (env.set i .un) st σ H := S.slots (by simp [S.len]) fun j s hj => by
    by_cases e : j = i
    · subst e
      rw [List.getElem?_set_self hlt] at hj
      cases hj
      exact .inr (.inl rfl)
    · rw [List.getElem?_set_ne (Ne.symm e)] at hj
      exact .inl ⟨hj, rfl⟩
  have S2 := S1.freeze h4 h2 h3 (fun ⟨j, s, q1, q2, q3⟩ => by
    by_cases e : j = i
    · subst e
      rw [List.getElem?_set_self hlt] at q1
      cases q1
      cases q2
    · rw [List.getElem?_set_ne (Ne.symm e)] at q1
      exact e (S.apart j i s _ a q1 hi q2 rfl q3 h1)) (S.ownO i _ a hi rfl h1).symm (fun _ => HO.noConfusion)
  refine ⟨_, S2.slots (by simp [S.len]) fun j s hj => ?_, same_new h2⟩
  by_cases e : j = i
  · subst e
    rw [List.getElem?_set_self hlt] at hj
    cases hj
    exact .inr (.inr ⟨_, _, rfl, h1, .lst upd_same (h5.mono (.refl _) (same_new h2))⟩)
  · rw [List.getElem?_set_ne (Ne.symm e)] at hj
    exact .inl ⟨by rw [List.getElem?_set_ne (Ne.symm e)]; exact hj, rfl⟩
theorem snd_frzS {t : TS} {i : Nat} (h : SndS K E t f) : SndS K E t (frzS i f) := fun B ρ F env st σ H D S q => by
  unfold frzS at q
  split at q
  · rename_i xs hi
    obtain ⟨F1, S1, e1⟩ := S.frzSlot hi
    exact h B ρ F1 _ st σ H D S1 (q.on (.refl _) e1)
  · exact q.elim
theorem ds_frz (i : Nat) (h : DS Γ s f) : DS Γ s (frzS i f) := by
  obtain ⟨t, p, q⟩ := h.run
  exact ⟨t, p, snd_frzS q⟩

/-! ### owned lists are changed -/
/-- the heap behind a change of a list that a slot or the store holds -/
theorem StOk.lst {a : Addr} {vs us : List V} (S : StOk K ρ F H st) (ha : H a = some (.lst vs)) (hF : F a = none) (hρ : a ∉ ρ) : StOk K ρ F (upd H a (.lst us)) st := by
  refine ⟨fun b u hu => ?_, S.nd, S.len, fun i c b h1 h2 => ?_⟩
  · have n : b ≠ a := fun z => by rw [z, hF] at hu; cases hu
    rw [upd_ne n]; exact S.sub b u hu
  · obtain ⟨q1, q2⟩ := S.at_ i c b h1 h2
    have n : b ≠ a := fun z => hρ (z ▸ List.mem_of_getElem? h2)
    refine ⟨q1, ?_⟩
    cases c with
    | lst xs => obtain ⟨ws, r1, r2⟩ := q2; exact ⟨ws, by rw [upd_ne n]; exact r1, r2⟩
    | ins C fs =>
      obtain ⟨dx, fv, r1, r2, r3, r4⟩ := q2
      have n2 : dx ≠ a := fun z => by rw [z, ha] at r2; cases r2
      exact ⟨dx, fv, by rw [upd_ne n]; exact r1, by rw [upd_ne n2]; exact r2, r3, r4⟩
theorem Sim.slList {i : Nat} {a : Addr} {xs ys : List D} {vs us : List V} (S : Sim K B ρ F env st σ H) (hi : env[i]? = some (.ol xs)) (ho : OwnAt σ i a) (ha : H a = some (.lst vs)) (r : RpL K ρ F us ys) : Sim K B ρ F (env.set i (.ol ys)) st σ (upd H a (.lst us)) := by
  obtain ⟨b, ws, h1, h2, h3, h4, h5⟩ := S.sl _ _ hi
  cases ho.inj h1
  have hlt : i < env.length := (List.getElem?_eq_some_iff.mp hi).1
  have key : ∀ (j : Nat) (t : Slot), (env.set i (.ol ys))[j]? = some t → (j = i ∧ t = .ol ys) ∨ (j ≠ i ∧ env[j]? = some t) := fun j t hj => by
    by_cases e : j = i
    · subst e
      rw [List.getElem?_set_self hlt] at hj
      cases hj
      exact .inl ⟨rfl, rfl⟩
    · rw [List.getElem?_set_ne (Ne.symm e)] at hj
      exact .inr ⟨e, hj⟩
  refine ⟨S.so.lst ha h2 h3, by simp [S.len], fun j t hj => ?_, fun j k t u x hj hk ht hu hb hc => ?_, fun j t x hj ht hb => ?_, S.lg, S.fs, S.fnew, S.rnew, fun x o hx q1 q2 => ?_, S.ins.trans (.lst ha)⟩
  · rcases key j t hj with ⟨rfl, rfl⟩ | ⟨n, q⟩
    · exact ⟨a, us, ho, h2, h3, upd_same, r⟩
    · refine (S.sl j t q).mono (.refl _) (.refl _) fun x hx ht => ?_
      obtain ⟨y, g1, g2, g3, o, g4⟩ := (S.sl j t q).own ht
      cases hx.inj g1
      have nx : x ≠ a := fun z => n (S.apart j i t _ a q hi ht rfl (z ▸ hx) ho)
      exact ⟨g2, g3, fun o h => by rw [upd_ne nx]; exact h⟩
  · have hj' : ∃ t', env[j]? = some t' ∧ t'.owned = true := by
      rcases key j t hj with ⟨rfl, rfl⟩ | ⟨_, q⟩
      · exact ⟨_, hi, rfl⟩
      · exact ⟨_, q, ht⟩
    have hk' : ∃ t', env[k]? = some t' ∧ t'.owned = true := by
      rcases key k u hk with ⟨rfl, rfl⟩ | ⟨_, q⟩
      · exact ⟨_, hi, rfl⟩
      · exact ⟨_, q, hu⟩
    obtain ⟨t1, g1, g2⟩ := hj'
    obtain ⟨t2, g3, g4⟩ := hk'
    exact S.apart j k t1 t2 x g1 g3 g2 g4 hb hc
  · rcases key j t hj with ⟨rfl, rfl⟩ | ⟨_, q⟩
    · exact S.ownO _ _ x hi rfl hb
    · exact S.ownO j t x q ht hb
  · have n : x ≠ a := fun z => by
      rcases S.ownO i _ a hi rfl ho with w | w
      · exact q2 (z ▸ w)
      · rw [z, w] at hx; cases hx
    rw [upd_ne n]; exact S.keep x o hx q1 q2
/-- a list of the store is changed -/
theorem Sim.stList {i : Nat} {a : Addr} {xs ys : List D} {us : List V} (S : Sim K B ρ F env st σ H) (hi : st[i]? = some (.lst xs)) (ho : ρ[i]? = some a) (r : RpL K ρ F us ys) : Sim K B ρ F env (st.set i (.lst ys)) σ (upd H a (.lst us)) := by
  obtain ⟨hF, vs, ha, _⟩ := S.so.at_ _ _ _ hi ho
  have hlt : i < st.length := (List.getElem?_eq_some_iff.mp hi).1
  have hm : a ∈ ρ := List.mem_of_getElem? ho
  refine ⟨⟨fun b u hu => ?_, S.so.nd, by simp [S.so.len], fun j c b h1 h2 => ?_⟩, S.len, fun j t hj => ?_, S.apart, S.ownO, S.lg, S.fs, S.fnew, S.rnew, fun x o hx q1 q2 => ?_, S.ins.trans (.lst ha)⟩
  · have n : b ≠ a := fun z => by rw [z, hF] at hu; cases hu
    rw [upd_ne n]; exact S.so.sub b u hu
  · by_cases e : j = i
    · subst e
      rw [List.getElem?_set_self hlt] at h1
      cases h1
      rw [ho] at h2
      cases h2
      exact ⟨hF, us, upd_same, r⟩
    · rw [List.getElem?_set_ne (Ne.symm e)] at h1
      obtain ⟨q1, q2⟩ := S.so.at_ j c b h1 h2
      have n : b ≠ a := fun z => e (nd_ix S.so.nd (z ▸ h2) ho)
      refine ⟨q1, ?_⟩
      cases c with
      | lst xs => obtain ⟨ws, r1, r2⟩ := q2; exact ⟨ws, by rw [upd_ne n]; exact r1, r2⟩
      | ins C fs =>
        obtain ⟨dx, fv, r1, r2, r3, r4⟩ := q2
        have n2 : dx ≠ a := fun z => by rw [z, ha] at r2; cases r2
        exact ⟨dx, fv, by rw [upd_ne n]; exact r1, by rw [upd_ne n2]; exact r2, r3, r4⟩
  · refine (S.sl j t hj).mono (.refl _) (.refl _) fun x hx ht => ?_
    obtain ⟨y, g1, g2, g3, o, g4⟩ := (S.sl j t hj).own ht
    cases hx.inj g1
    have nx : x ≠ a := fun z => g3 (z ▸ hm)
    exact ⟨g2, g3, fun o h => by rw [upd_ne nx]; exact h⟩
  · have n : x ≠ a := fun z => by
      rcases S.rnew a hm with w | w | w
      · exact q1 (z ▸ w)
      · rw [z, w] at hx; cases hx
      · exact q2 (z ▸ w)
    rw [upd_ne n]; exact S.keep x o hx q1 q2
/-- a list that may be changed, and the state behind -/
def mutL (g : List D → Option (List D)) (o : D) (env : Env) (st : Store) : RS := match o with
  | .sl i => match env[i]? with
    | some (.ol xs) => match g xs with
      | some ys => .nx (env.set i (.ol ys)) st
      | none => .no
    | _ => .no
  | .own i => match st[i]? with
    | some (.lst xs) => match g xs with
      | some ys => .nx env (st.set i (.lst ys))
      | none => .no
    | _ => .no
  | _ => .no
theorem mutL_ok {g : List D → Option (List D)} {Q : L2.St → Hp → Prop} (S : Sim K B ρ F env st σ H) (r : RpV K ρ F env σ v d) (h : OutG K E B ρ F Q (mutL g d env st)) : ∃ a vs xs ys, v = .ref a ∧ H a = some (.lst vs) ∧ RpL K ρ F vs xs ∧ g xs = some ys ∧ ∀ us, RpL K ρ F us ys → Q σ (upd H a (.lst us)) := by
  unfold mutL at h
  split at h
  · split at h
    · split at h
      · rename_i i _ xs hi _ ys hg
        rcases r with r | ⟨j, a, s, e, h1, h2, h3, rfl⟩
        · cases r
        · cases e
          obtain ⟨b, vs, q1, q2, q3, q4, q5⟩ := S.sl _ _ hi
          cases h3.inj q1
          exact ⟨_, vs, xs, ys, rfl, q4, q5, hg, fun us r => h ρ F σ _ (S.slList hi h3 q4 r) (.refl _) (.refl _)⟩
      · exact h.elim
    · exact h.elim
  · split at h
    · split at h
      · rename_i i _ xs hi _ ys hg
        have r := r.rp rfl
        cases r with
        | own hr =>
          obtain ⟨_, vs, q1, q2⟩ := S.so.at_ _ _ _ hi hr
          exact ⟨_, vs, xs, ys, rfl, q1, q2, hg, fun us r => h ρ F σ _ (S.stList hi hr r) (.refl _) (.refl _)⟩
      · exact h.elim
    · exact h.elim
  · exact h.elim
/-- o[i] = value -/
def setAt (k : Int) (d : D) (xs : List D) : Option (List D) := (ixN xs.length k).map fun j => xs.set j d
def subG (fo fi : FE) : FG := fun d env st => (fo env st).toS env fun o s1 => (fi env s1).toS env fun i s2 => match i with
  | .int k => mutL (setAt k d) o env s2
  | _ => .no
theorem OutG.bind {α ω : Type} {R1 : List Addr → Hp → ω → α → Prop} {r : Res α} {k : α → Store → RS} {Q : L2.St → Hp → Prop} {Q' : ω → Hp → Prop} (h : OutG K E B ρ F Q (r.toS env k))
    (hk : ∀ d st' ρ' F' H' v, Sim K B ρ' F' env st' σ H' → Lg ρ ρ' → Same F F' → R1 ρ' F' v d → OutG K E B ρ' F' Q (k d st') → Q' v H') : Out K E R1 B ρ F env σ Q' r := by
  cases r with
  | no => exact h
  | err c fs s => exact fun ρ' F' H' od S l e x => h ρ' F' σ H' od S l e x
  | ok d s => exact fun ρ1 F1 H1 v S l e rv => hk d s ρ1 F1 H1 v S l e rv (OutG.on (show OutG K E B ρ F Q (k d s) from h) l e)
theorem dg_sub {o i : Expr} {fo fi : FE} (ho : DE Γ o fo) (hi : DE Γ i fi) (ha : ∀ (env : PySem.Env) v, assign (.Subscript o i pos) env v = (do
      let ov ← holding [v] (eval o env)
      let iv ← holding [v, ov] (eval i env)
      standAt pos
      holding [v, ov, iv] (setItem ov iv v)
      release [v, ov, iv] []) := by intro _ _; rfl) : DG Γ (.Subscript o i pos) (subG fo fi) := by
  obtain ⟨t, p, q⟩ := ho.run
  obtain ⟨u, p', q'⟩ := hi.run
  refine ⟨_, fun X m => pg_sub (p X m) (p' X m) set_list (ha X.env), fun B ρ F env st σ H v d Q S r h => q B ρ F env st σ H _ S (OutG.bind h fun od s1 ρ1 F1 H1 vo S1 l1 e1 r1 h1 => q' B ρ1 F1 env s1 σ H1 _ S1 (OutG.bind h1 fun id s2 ρ2 F2 H2 vi S2 l2 e2 r2 h2 => ?_))⟩
  split at h2
  · cases r2.int
    obtain ⟨a, vs, xs, ys, rfl, g1, g2, g3, g4⟩ := mutL_ok S2 (r1.mono l2 e2) h2
    unfold setAt at g3
    cases hj : ixN xs.length ‹Int› with
    | none => rw [hj] at g3; cases g3
    | some j =>
      rw [hj] at g3
      simp only [Option.map_some, Option.some.injEq] at g3
      subst g3
      exact ⟨a, vs, _, j, rfl, rfl, g1, by rw [g2.length]; exact hj, g4 _ (g2.set ((r.mono l1 e1).mono l2 e2) j)⟩
  · exact h2.elim
end
end DL
namespace DL
open PySem PySem.Spec PyProof.Rows L2

section
variable {Γ : Ga} {K : PySem.W.Frag} {E : WX}
variable {a b c e o i : Expr} {fa fb fc fo fi : FE} {ga gb : FT} {pos p p2 : Pos} {rest es : List Expr} {fs : FA}
variable {B : Base} {ρ ρ' : List Addr} {F F' H H' : Hp} {env env' : Env} {st st' : Store} {σ σ' : L2.St} {v : V} {d : D} {s : Stmt} {ss : List Stmt} {f g : FS}
/-! ### x += e, o[i] += e -/
def augS (i : Nat) (g : Int → Int → Int) (f : FE) : FS := fun env st => match env[i]? with
  | some (.fz (.int a)) => (f env st).toS env fun d s => match d with
    | .int b => .nx (env.set i (.fz (.int (g a b)))) s
    | _ => .no
  | _ => .no
theorem ds_aug (i : Nat) {op : Operator} {g : Int → Int → Int} {x : Str} {pos' : Pos} (hp : ∀ X, Mt Γ X → PIp X op (ipI g)) (h : DE Γ a fa) (hi : Γ.N[i]? = some x := by rfl) (hN : Γ.N.Nodup := by assumption) (hx : Loc Γ.sc x := by first | exact .inl rfl | exact .inr rfl) (hf : Γ.fn x = true ∨ Γ.sc.names.lookup x = some .local := by first | exact .inl rfl | exact .inr rfl) : DS Γ (.AugAssign (.Name x pos') op a pos) (augS i g fa) := by
  obtain ⟨t, p, q⟩ := h.run
  refine ⟨_, fun X m => ps_aug (i := i) (by rw [m.N]; exact hN) (by rw [m.N]; exact hi) (by rw [m.sc]; exact hx) (p X m) (hp X m) (hf.elim (fun h => .inl (m.fn x h)) (fun h => .inr (by rw [m.sc]; exact h))), fun B ρ F env st σ H D S h => ?_⟩
  unfold augS at h
  split at h
  · rename_i n hn
    obtain ⟨v, h1, h2⟩ := S.sl _ _ hn
    cases h2
    refine ⟨_, h1, q B ρ F env st σ H _ S (OutS.bind h fun d s1 ρ1 F1 H1 w S1 l1 e1 r1 h3 => ?_)⟩
    split at h3
    · cases r1.int
      exact ⟨_, _, rfl, rfl, h3 ρ1 F1 _ H1 (S1.set (.int _)) (.refl _) (.refl _)⟩
    · exact h3.elim
  · exact h.elim
def rGetL (K : PySem.W.Frag) : V → V → Hp → VK → Prop := fun o i H Q => ∃ p xs k v, o = .ref p ∧ i = .int k ∧ SqL K H p xs ∧ atI xs k = some v ∧ Q v H
theorem get_list {X : Cx} : PGet X (rGetL X.K) := by
  intro pins s σ H o i ov iv Q I ro ri h
  obtain ⟨p, xs, k, z, rfl, rfl, hq, he, q⟩ := h
  cases ro
  obtain ⟨t, rfl⟩ := ri
  obtain ⟨its, r, pl, hz⟩ := I.list hq
  obtain ⟨j, h1, h2, h3, h4, h5⟩ := atI_get he
  obtain ⟨w, ew, rw'⟩ := r.get h2
  have hl := r.length
  have hn := line63
  have fin : EP X pins σ Q w s := ⟨z, H, I, rw', q⟩
  by_cases h0 : 0 ≤ k
  · have hj : k.toNat = j := by
      rw [seqIndex_of h0 h5] at h1
      exact Option.some.inj h1
    exact wpAny_getItem_list pl.isList h0 (by omega) (by rw [hj]; simpa using ew) fin
  · have hj : (k + (its.toArray.size : Int)).toNat = j := by
      rw [seqIndex_neg (by omega) h4] at h1
      rw [List.size_toArray, ← hl]
      exact Option.some.inj h1
    exact wpAny_getItem_list_neg pl.isList (by omega) (by rw [List.size_toArray] <;> omega) (by omega) (by rw [hj]; simpa using ew) fin
def augIS (g : Int → Int → Int) (fo fi f : FE) : FS := fun env st => (fo env st).toS env fun o s1 => (fi env s1).toS env fun i s2 => match i with
  | .int k => match (seqL env s2 o).bind fun xs => atD xs k with
    | some (.int a) => (f env s2).toS env fun d s3 => match d with
      | .int b => mutL (setAt k (.int (g a b))) o env s3
      | _ => .no
    | _ => .no
  | _ => .no
theorem mutL_S {T : Ends} {g : List D → Option (List D)} {o : D} (h : OutS K E B ρ F T (mutL g o env st)) : OutG K E B ρ F T.nx (mutL g o env st) := by
  cases hr : mutL g o env st with
  | nx e s => rw [hr] at h; exact h
  | err c fs e s => rw [hr] at h; exact h
  | no => rw [hr] at h; exact h
  | rt d s => exfalso; unfold mutL at hr; split at hr <;> (try split at hr) <;> (try split at hr) <;> simp at hr
  | bk d s => exfalso; unfold mutL at hr; split at hr <;> (try split at hr) <;> (try split at hr) <;> simp at hr
  | ct d s => exfalso; unfold mutL at hr; split at hr <;> (try split at hr) <;> (try split at hr) <;> simp at hr
theorem ds_augI {op : Operator} {g : Int → Int → Int} {tpos : Pos} (hp : ∀ X, Mt Γ X → PIp X op (ipI g)) (ho : DE Γ o fo) (hi : DE Γ i fi) (h : DE Γ a fa) (ha : ∀ ov iv new, augStore i ov iv new = (do holding [new, ov, iv] (setItem ov iv new); release [new, ov, iv] []; pure .next) := by intros; rfl) : DS Γ (.AugAssign (.Subscript o i tpos) op a pos) (augIS g fo fi fa) := by
  obtain ⟨t, p, q⟩ := ho.run
  obtain ⟨u, p1, q1⟩ := hi.run
  obtain ⟨w, p2, q2⟩ := h.run
  refine ⟨tAugS t u w (rGetL Γ.K) (ipI g) rSetL, fun X m => ?_, fun B ρ F env st σ H T S h => q B ρ F env st σ H _ S (OutS.bind h fun od s1 ρ1 F1 H1 vo S1 l1 e1 r1 h1 => q1 B ρ1 F1 env s1 σ H1 _ S1 (OutS.bind h1 fun id s2 ρ2 F2 H2 vi S2 l2 e2 r2 h2 => ?_))⟩
  · have h := ps_augS (pos := pos) (tpos := tpos) (p X m) (p1 X m) get_list (p2 X m) (hp X m) set_list ha
    rw [m.K] at h
    exact h
  · split at h2
    · cases r2.int
      rename_i k
      have ro := r1.mono l2 e2
      split at h2
      · rename_i n hn
        obtain ⟨xs, g1, g2⟩ := Option.bind_eq_some_iff.mp hn
        obtain ⟨a, vs, rfl, g3, g4⟩ := seqL_ok S2 ro g1
        obtain ⟨z, g5, g6⟩ := atD_ok g4 g2
        cases g6
        refine ⟨a, vs, k, _, rfl, rfl, .inl (.inl g3), g5, q2 B ρ2 F2 env s2 σ H2 _ S2 (OutS.bind h2 fun d s3 ρ3 F3 H3 vd S3 l3 e3 r3 h3 => ?_)⟩
        split at h3
        · cases r3.int
          refine ⟨_, _, rfl, rfl, ?_⟩
          obtain ⟨a', vs', xs', ys', ea, k1, k2, k3, k4⟩ := mutL_ok S3 (ro.mono l3 e3) (mutL_S h3)
          cases ea
          unfold setAt at k3
          cases hj : ixN xs'.length k with
          | none => rw [hj] at k3; cases k3
          | some j =>
            rw [hj] at k3
            simp only [Option.map_some, Option.some.injEq] at k3
            subst k3
            exact ⟨_, vs', _, j, rfl, rfl, k1, by rw [k2.length]; exact hj, k4 _ (k2.set (.int _) j)⟩
        · exact h3.elim
      · exact h2.elim
    · exact h2.elim

/-! ### x.append(e) -/
def appS (fo fe : FE) : FS := fun env st => (fo env st).toS env fun o s1 => match seqL env s1 o with
  | some _ => (fe env s1).toS env fun d s2 => if d.isSl = true then .no else mutL (fun xs => if xs.length < sizeLine then some (xs ++ [d]) else none) o env s2
  | none => .no
theorem ds_append {o e : Expr} {apos cpos : Pos} (ho : DE Γ o fo) (he : DE Γ e fa) (hbase : ∀ env : PySem.Env, attributeBase o "append" env (eval o env) = eval o env := by intro _; rfl)
    (hfew : ∀ env : PySem.Env, ((backTo cpos (starEach [e] env)).all (fun x => !x.1) && (backToKw cpos (keywordEach [] env)).all (fun x => x.1.isSome)
      && decide (([e] : List Expr).length + ([] : List Keyword).length + (if ([] : List Keyword).isEmpty then 0 else 1) < 30)) = true := by intro _; rfl)
    (hline : (apos.endLine == cpos.line) = true := by rfl) (hs : ∀ env : PySem.Env, starEach [e] env = (false, eval e env) :: starEach [] env := by intro _; rfl) (hsw : ∀ env : PySem.Env, swapsWith (.Call (.Attribute o "append" apos) [e] [] cpos) none pos.line env = pure false := by intro _; rfl) :
    DS Γ (.Expr (.Call (.Attribute o "append" apos) [e] [] cpos) pos) (appS fo fa) := by
  obtain ⟨t, p, q⟩ := ho.run
  obtain ⟨u, p1, q1⟩ := he.run
  refine ⟨tDrop (tBM Γ.K "list" rAppend t (tCons u tNil)), fun X m => ?_, fun B ρ F env st σ H T S h => q B ρ F env st σ H _ S (OutS.bind h fun od s1 ρ1 F1 H1 vo S1 l1 e1 r1 h1 => ?_)⟩
  · have h := ps_expr (pos := pos) (pe_bm (apos := apos) (cpos := cpos) PySem.F.plainAttrs_list PySem.F.slot_list_append PySem.F.type_list_append mt_append (p X m) (pa_cons (p1 X m) pa_nil (hs X.env)) (hbase X.env) (hfew X.env) hline (hs X.env)) (hsw X.env)
    rw [m.K] at h
    exact h
  · split at h1
    · rename_i xs0 hx0
      obtain ⟨a0, vs0, rfl, g0, _⟩ := seqL_ok S1 r1 hx0
      refine ⟨.inl ⟨rfl, vs0, .inl (.inl g0)⟩, q1 B ρ1 F1 env s1 σ H1 _ S1 (OutS.bind h1 fun d s2 ρ2 F2 H2 w S2 l2 e2 r2 h2 => ?_)⟩
      split at h2
      · exact h2.elim
      · rename_i hd
        obtain ⟨a, vs, xs, ys, ea, g1, g2, g3, g4⟩ := mutL_ok S2 (r1.mono l2 e2) (mutL_S h2)
        cases ea
        split at g3
        · rename_i hlt
          cases g3
          exact ⟨_, vs, w, rfl, rfl, g1, by rw [g2.length]; exact hlt, g4 _ (g2.append (.cons (r2.rp (by simpa using hd)) .nil))⟩
        · cases g3
    · exact h1.elim

/-! ### what is walked -/
/-- J gives the items of ds one after the other, the heap grows by pairs alone -/
def Iter (K : PySem.W.Frag) (ρ : List Addr) (F : Hp) (J : It) (ds : List D) : Prop := ∃ (G : Hp → Prop) (Y : Nat → Hp → V → Hp → Prop), Walk J ds.length G Y ∧ (∀ H, Same F H → G H) ∧
  ∀ i H x H', Y i H x H' → ∃ d, ds[i]? = some d ∧ ((H' = H ∧ Rp K ρ F x d) ∨ (∃ T vs es, x = .ref T ∧ H T = none ∧ H' = upd H T (.tup vs) ∧ d = .tup es ∧ RpL K ρ F vs es) ∨ ∃ T vs es, x = .ref T ∧ H T = some (.tup vs) ∧ H' = H ∧ d = .tup es ∧ RpL K ρ F vs es)
abbrev FI := Env → Store → Res (List D)
def SndI (K : PySem.W.Frag) (E : WX) (w : TI) (f : FI) : Prop := ∀ B ρ F env st σ H R, Sim K B ρ F env st σ H → Out K E (fun ρ F J ds => Iter K ρ F J ds) B ρ F env σ R (f env st) → w σ H R
structure DI (Γ : Ga) (tg e : Expr) (f : FI) : Prop where
  run : ∃ w, (∀ X, Mt Γ X → PI X tg e w) ∧ SndI Γ.K Γ.E w f
theorem iter_tup {a : Addr} {vs : List V} {ds : List D} (h : SqU K F a vs) (r : RpL K ρ F vs ds) : Iter K ρ F (Itt K a) ds := by
  have w := walk_tup (K := K) (a := a) (xs := vs)
  rw [r.length] at w
  refine ⟨_, _, w, fun H e => (sqU_mono e h).t, fun i H x H' y => ?_⟩
  obtain ⟨d, h1, h2⟩ := r.get' y.2
  exact ⟨d, h1, .inl ⟨y.1, h2⟩⟩
theorem iter_list {a : Addr} {vs : List V} {ds : List D} (h : SqL K F a vs) (r : RpL K ρ F vs ds) : Iter K ρ F (Itl K a) ds := by
  have w := walk_list (K := K) (a := a) (xs := vs)
  rw [r.length] at w
  refine ⟨_, _, w, fun H e => sqL_mono e h, fun i H x H' y => ?_⟩
  obtain ⟨d, h1, h2⟩ := r.get' y.2
  exact ⟨d, h1, .inl ⟨y.1, h2⟩⟩
theorem iter_tupT {a : Addr} {vs : List V} {ds : List D} (h : SqT K F a vs) (r : RpL K ρ F vs ds) : Iter K ρ F (Itt K a) ds := by
  have w := walk_tup (K := K) (a := a) (xs := vs)
  rw [r.length] at w
  refine ⟨_, _, w, fun H e => sqT_mono e h, fun i H x H' y => ?_⟩
  obtain ⟨d, h1, h2⟩ := r.get' y.2
  exact ⟨d, h1, .inl ⟨y.1, h2⟩⟩
/-- what stands still and may be walked: a tuple; a list -/
def itT (f : FE) : FI := fun env st => (f env st).bind fun d s => match d with
  | .tup ds => .ok ds s
  | _ => .no
def itL (f : FE) : FI := fun env st => (f env st).bind fun d s => match d with
  | .lst ds => .ok ds s
  | .scr ds => .ok ds s
  | _ => .no
theorem di_tup {tg : Expr} (h : DE Γ a fa) : DI Γ tg a (itT fa) := by
  obtain ⟨t, p, q⟩ := h.run
  refine ⟨iTup Γ.K t, fun X m => ?_, fun B ρ F env st σ H R S h => q B ρ F env st σ H _ S (Out.bind h fun d s1 ρ1 F1 H1 v S1 l1 e1 r1 h1 => ?_)⟩
  · have h := pi_tup (tg := tg) (p X m)
    rw [m.K] at h
    exact h
  · split at h1
    · obtain ⟨a, vs, rfl, g1, g2⟩ := r1.tup
      exact ⟨a, rfl, ⟨vs, (sqU_mono S1.so.sub g1).t⟩, h1.ret S1 (iter_tup g1 g2)⟩
    · exact h1.elim
theorem di_list {tg : Expr} (h : DE Γ a fa) : DI Γ tg a (itL fa) := by
  obtain ⟨t, p, q⟩ := h.run
  refine ⟨iList Γ.K t, fun X m => ?_, fun B ρ F env st σ H R S h => q B ρ F env st σ H _ S (Out.bind h fun d s1 ρ1 F1 H1 v S1 l1 e1 r1 h1 => ?_)⟩
  · have h := pi_list (tg := tg) (p X m)
    rw [m.K] at h
    exact h
  · split at h1
    · have r2 := r1.rp rfl
      cases r2 with
      | lst g1 g2 => exact ⟨_, rfl, ⟨_, .inl (.inl (S1.so.sub _ _ g1))⟩, h1.ret S1 (iter_list (.inl (.inl g1)) g2)⟩
    · have r2 := r1.rp rfl
      cases r2 with
      | scr g1 g2 => exact ⟨_, rfl, ⟨_, sqL_mono S1.so.sub g1⟩, h1.ret S1 (iter_list g1 g2)⟩
    · exact h1.elim
/-- range -/
def rngD (lo : Int) (n : Nat) : List D := (List.range n).map fun (i : Nat) => D.int (lo + (i : Int))
theorem rngD_length (lo : Int) (n : Nat) : (rngD lo n).length = n := by simp [rngD]
theorem iter_range {lo : Int} {n : Nat} : Iter K ρ F (Itr lo n) (rngD lo n) := by
  have w := walk_range (lo := lo) (n := n)
  refine ⟨fun _ => True, fun i H x H' => i < n ∧ H' = H ∧ x = .int (lo + i), ?_, fun _ _ => trivial, fun i H x H' y => ?_⟩
  · rw [rngD_length]
    exact w.mono (fun _ h => h) fun i H x H' hi _ y => ⟨hi, y⟩
  · obtain ⟨hi, h1, rfl⟩ := y
    exact ⟨.int (lo + i), by simp [rngD, hi], .inl ⟨h1, .int _⟩⟩
def rngOk (i : Int) : Bool := decide (-(2 ^ 62) ≤ i ∧ i < 2 ^ 62)
def itR1 (f : FE) : FI := fun env st => (f env st).bind fun d s => match d with
  | .int j => if rngOk j = true then .ok (rngD 0 j.toNat) s else .no
  | _ => .no
def itR2 (f g : FE) : FI := fun env st => (f env st).bind fun d s => (g env s).bind fun d' s' => match d, d' with
  | .int i, .int j => if rngOk i = true ∧ rngOk j = true then .ok (rngD i (j - i).toNat) s' else .no
  | _, _ => .no
theorem di_range1 {tg : Expr} (h : DE Γ a fa) (hg : Γ.sc.names.lookup ("range" : Str) = some .globalImplicit) (hm : Γ.mg "range" = none) (hs : ∀ env : PySem.Env, starEach [a] env = [(false, eval a env)] := by intro _; rfl) : DI Γ tg (.Call (.Name "range" p) [a] [] pos) (itR1 fa) := by
  obtain ⟨t, pp, q⟩ := h.run
  refine ⟨_, fun X m => pi_range1 (show X.env.kindOf ("range" : Str) = _ by unfold Env.kindOf; rw [m.sc]; exact hg) (by rw [m.mg]; exact hm) (pa_cons (pp X m) pa_nil (by rw [hs X.env]; rfl)) (hs X.env), fun B ρ F env st σ H R S h => q B ρ F env st σ H _ S (Out.bind h fun d s1 ρ1 F1 H1 v S1 l1 e1 r1 h1 => ?_)⟩
  split at h1
  · split at h1
    · rename_i hc
      cases r1.int
      have hc := of_decide_eq_true hc
      exact ⟨_, rfl, hc.1, hc.2, h1.ret S1 iter_range⟩
    · exact h1.elim
  · exact h1.elim
theorem di_range2 {tg : Expr} (h : DE Γ a fa) (h' : DE Γ b fb) (hg : Γ.sc.names.lookup ("range" : Str) = some .globalImplicit) (hm : Γ.mg "range" = none) (hs : ∀ env : PySem.Env, starEach [a, b] env = [(false, eval a env), (false, eval b env)] := by intro _; rfl) (hs2 : ∀ env : PySem.Env, starEach [b] env = [(false, eval b env)] := by intro _; rfl) : DI Γ tg (.Call (.Name "range" p) [a, b] [] pos) (itR2 fa fb) := by
  obtain ⟨t, pp, q⟩ := h.run
  obtain ⟨u, pp', q'⟩ := h'.run
  refine ⟨_, fun X m => pi_range2 (show X.env.kindOf ("range" : Str) = _ by unfold Env.kindOf; rw [m.sc]; exact hg) (by rw [m.mg]; exact hm) (pa_cons (pp X m) (pa_cons (pp' X m) pa_nil (by rw [hs2 X.env]; rfl)) (by rw [hs X.env, hs2 X.env])) (hs X.env) (hs2 X.env), fun B ρ F env st σ H R S h => q B ρ F env st σ H _ S (Out.bind h fun d s1 ρ1 F1 H1 v S1 l1 e1 r1 h1 => q' B ρ1 F1 env s1 σ H1 _ S1 (Out.bind h1 fun d2 s2 ρ2 F2 H2 v2 S2 l2 e2 r2 h2 => ?_))⟩
  split at h2
  · split at h2
    · rename_i hc
      cases r1.int
      cases r2.int
      have hc1 := of_decide_eq_true hc.1
      have hc2 := of_decide_eq_true hc.2
      exact ⟨_, _, rfl, ⟨hc1.1, hc1.2, hc2.1, hc2.2⟩, h2.ret S2 iter_range⟩
    · exact h2.elim
  · exact h2.elim

/-! ### for -/
/-- an item is stored: it may be a new pair -/
def forL (tg : FG) (body : FS) : List D → Env → Store → RS
  | [], env, st => .nx env st
  | d :: r, env, st => match tg d env st with
    | .nx e1 s1 => match body e1 s1 with
      | .nx e2 s2 => forL tg body r e2 s2
      | .ct e2 s2 => forL tg body r e2 s2
      | .bk e2 s2 => .nx e2 s2
      | x => x
    | .err c fs e s => .err c fs e s
    | _ => .no
def forS (it : FI) (tg : FG) (body : FS) : FS := fun env st => (it env st).toS env fun ds s => forL tg body ds env s
theorem item_ok {Y : Nat → Hp → V → Hp → Prop} {ds : List D} {i : Nat} {x : V} {H'' : Hp} {d : D} (S : Sim K B ρ F env st σ H) (l : Lg ρ' ρ) (e : Same F' F) (hd : ds[i]? = some d)
    (h : (H'' = H ∧ Rp K ρ' F' x d) ∨ (∃ T vs es, x = .ref T ∧ H T = none ∧ H'' = upd H T (.tup vs) ∧ d = .tup es ∧ RpL K ρ' F' vs es) ∨ ∃ T vs es, x = .ref T ∧ H T = some (.tup vs) ∧ H'' = H ∧ d = .tup es ∧ RpL K ρ' F' vs es) : ∃ F2, Sim K B ρ F2 env st σ H'' ∧ Same F F2 ∧ Rp K ρ F2 x d ∧ ∀ a o, H a = some o → (∀ xs, o ≠ .tup xs) → H'' a = some o ∧ F2 a = F a := by
  rcases h with ⟨rfl, r⟩ | ⟨T, vs, es, rfl, hT, rfl, rfl, r⟩ | ⟨T, vs, es, rfl, hT, rfl, rfl, r⟩
  · exact ⟨F, S, .refl _, r.mono l e, fun _ _ h _ => ⟨h, rfl⟩⟩
  · have f : Same F (upd F T (.tup vs)) := same_new (S.noF hT)
    exact ⟨upd F T (.tup vs), S.newF hT (fun _ => HO.noConfusion), f, .tup (.inl upd_same) (r.mono l (e.trans f)), fun a o h _ => ⟨same_new hT _ _ h, upd_ne (ne_of_none h hT)⟩⟩
  · obtain ⟨S2, f⟩ := S.pinT hT
    exact ⟨upd F T (.tup vs), S2, f, .tup (.inl upd_same) (r.mono l (e.trans f)), fun a o h hn => ⟨h, upd_ne fun z => by rw [z, hT] at h; cases h; exact hn _ rfl⟩⟩
theorem snd_for {wi : TI} {tg : TG} {tb : TS} {it : FI} {g : FG} {body : FS} (hi : SndI K E wi it) (hg : SndG K E tg g) (hb : SndS K E tb body) : SndS K E (tFor wi tg tb) (forS it g body) := fun B ρ F env st σ H T S h =>
  hi B ρ F env st σ H _ S (OutS.bind h fun ds s1 ρ1 F1 H1 J S1 l1 e1 iter h1 => by
    obtain ⟨G, Y, w, hG, hY⟩ := iter
    refine for_it w (fun i σ' H' => ∃ ρ' F' env' st', Sim K B ρ' F' env' st' σ' H' ∧ Lg ρ1 ρ' ∧ Same F1 F' ∧ OutS K E B ρ' F' T (forL g body (ds.drop i) env' st')) ⟨ρ1, F1, env, s1, S1, .refl _, .refl _, h1⟩ (fun i σ' H' _ ⟨ρ', F', env', st', S', l', e', _⟩ => hG H' (e'.trans S'.so.sub)) (fun i x σ' H' H'' hi' ⟨ρ', F', env', st', S', l', e', h'⟩ y => ?_) (fun σ' H' ⟨ρ', F', env', st', S', l', e', h'⟩ => ?_)
    · obtain ⟨d, hd, hx⟩ := hY i H' x H'' y
      obtain ⟨F2, S2, f2, r2, _⟩ := item_ok (Y := Y) S' l' e' hd hx
      have hdr : ds.drop i = d :: ds.drop (i + 1) := by
        obtain ⟨hlt, he⟩ := List.getElem?_eq_some_iff.mp hd
        rw [List.drop_eq_getElem_cons hlt, he]
      rw [hdr] at h'
      have h2 := OutS.on h' (.refl _) f2
      unfold forL at h2
      refine hg B ρ' F2 env' st' σ' H'' x d _ S2 r2 ?_
      cases hr : g d env' st' with
      | nx e3 s3 =>
        rw [hr] at h2
        intro ρ3 F3 σ3 H3 S3 l3 f3
        have h3 := OutS.on h2 l3 f3
        refine hb B ρ3 F3 e3 s3 σ3 H3 _ S3 ?_
        simp only at h3
        cases hr2 : body e3 s3 with
        | nx e4 s4 => rw [hr2] at h3; exact fun ρ4 F4 σ4 H4 S4 l4 f4 => ⟨ρ4, F4, e4, s4, S4, (l'.trans l3).trans l4, ((e'.trans f2).trans f3).trans f4, OutS.on h3 l4 f4⟩
        | ct e4 s4 => rw [hr2] at h3; exact fun ρ4 F4 σ4 H4 S4 l4 f4 => ⟨ρ4, F4, e4, s4, S4, (l'.trans l3).trans l4, ((e'.trans f2).trans f3).trans f4, OutS.on h3 l4 f4⟩
        | bk e4 s4 => rw [hr2] at h3; exact h3
        | rt d4 s4 => rw [hr2] at h3; exact h3
        | err c4 fs4 e4 s4 => rw [hr2] at h3; exact h3
        | no => rw [hr2] at h3; exact h3
      | err c fs e s => rw [hr] at h2; exact h2
      | _ => rw [hr] at h2; exact h2.elim
    · rw [List.drop_length] at h'
      exact h'.ret S')
theorem ds_for {tg it : Expr} {fi : FI} {g : FG} {body : FS} (hi : DI Γ tg it fi) (hg : DG Γ tg g) (hb : DSs Γ ss body) (hs : ∀ (env : PySem.Env) x, foldedSetIterable it env x = pure x := by intro _ _; rfl) : DS Γ (.For tg it ss [] pos) (forS fi g body) := by
  obtain ⟨w, p, q⟩ := hi.run
  obtain ⟨t, p1, q1⟩ := hg.run
  obtain ⟨u, p2, q2⟩ := hb.run
  exact ⟨_, fun X m => ps_for m.own m.calm (p X m) (p1 X m) (p2 X m) (hs X.env), snd_for q q1 q2⟩

/-! ### while -/
def whileN (test : FT) (body : FS) : Nat → FS
  | 0, _, _ => .no
  | n + 1, env, st => (test env st).toS env fun b s => if b = true then match body env s with
      | .nx e2 s2 => whileN test body n e2 s2
      | .ct e2 s2 => whileN test body n e2 s2
      | .bk e2 s2 => .nx e2 s2
      | x => x
    else .nx env s
theorem whileN_snd {tc : TT} {tb : TS} {test : FT} {body : FS} (hc : SndT K E tc test) (hb : SndS K E tb body) (n : Nat) : SndS K E (tWhile tc tb) (whileN test body n) := fun B ρ F env st σ H T S h => by
  refine ⟨fun m σ' H' => ∃ ρ' F' env' st', Sim K B ρ' F' env' st' σ' H' ∧ OutS K E B ρ' F' T (whileN test body m env' st'), ⟨n, ρ, F, env, st, S, h⟩, fun m σ' H' ⟨ρ', F', env', st', S', h'⟩ => ?_⟩
  cases m with
  | zero => exact h'.elim
  | succ m =>
    unfold whileN at h'
    refine hc B ρ' F' env' st' σ' H' _ S' (OutS.bind h' fun bb s1 ρ1 F1 H1 vb S1 l1 e1 r1 h1 => ?_)
    subst r1
    cases vb with
    | false => exact h1.ret S1
    | true =>
      refine ⟨fun σ2 H2 => ∃ ρ' F' env' st', Sim K B ρ' F' env' st' σ2 H2 ∧ OutS K E B ρ' F' T (whileN test body m env' st'), fun σ2 H2 hh => ⟨m, Nat.lt_succ_self _, hh⟩, ?_⟩
      simp only [if_true] at h1
      refine hb B ρ1 F1 env' s1 σ' H1 _ S1 ?_
      cases hr2 : body env' s1 with
      | nx e4 s4 => rw [hr2] at h1; exact fun ρ4 F4 σ4 H4 S4 l4 f4 => ⟨ρ4, F4, e4, s4, S4, OutS.on h1 l4 f4⟩
      | ct e4 s4 => rw [hr2] at h1; exact fun ρ4 F4 σ4 H4 S4 l4 f4 => ⟨ρ4, F4, e4, s4, S4, OutS.on h1 l4 f4⟩
      | bk e4 s4 => rw [hr2] at h1; exact h1
      | rt d4 s4 => rw [hr2] at h1; exact h1
      | err c4 fs4 e4 s4 => rw [hr2] at h1; exact h1
      | no => rw [hr2] at h1; exact h1
def RS.isNo : RS → Bool
  | .no => true
  | _ => false
open Classical in
/-- some number of turns is enough -/
noncomputable def whileS (test : FT) (body : FS) : FS := fun env st => if h : ∃ n, (whileN test body n env st).isNo = false then whileN test body (Classical.choose h) env st else .no
theorem whileN_more {test : FT} {body : FS} : ∀ (n k : Nat) (env : Env) (st : Store), (whileN test body n env st).isNo = false → whileN test body (n + k) env st = whileN test body n env st
  | 0, _, _, _, h => by cases h
  | n + 1, k, env, st, h => by
    rw [show n + 1 + k = (n + k) + 1 by omega]
    unfold whileN at h ⊢
    cases hr : test env st with
    | no => rfl
    | err _ _ _ => rfl
    | ok b s =>
      rw [hr] at h
      cases b with
      | false => rfl
      | true =>
        simp only [Res.toS, if_true] at h ⊢
        cases hr2 : body env s with
        | nx e2 s2 => rw [hr2] at h; exact whileN_more n k e2 s2 h
        | ct e2 s2 => rw [hr2] at h; exact whileN_more n k e2 s2 h
        | _ => rfl
theorem whileS_eq {test : FT} {body : FS} {env : Env} {st : Store} (n : Nat) (h : (whileN test body n env st).isNo = false) : whileS test body env st = whileN test body n env st := by
  unfold whileS
  have hh : ∃ n, (whileN test body n env st).isNo = false := ⟨n, h⟩
  rw [dif_pos hh]
  have h1 := Classical.choose_spec hh
  rcases Nat.le_total n (Classical.choose hh) with q | q
  · obtain ⟨k, hk⟩ := Nat.exists_eq_add_of_le q
    rw [hk]; exact whileN_more n k env st h
  · obtain ⟨k, hk⟩ := Nat.exists_eq_add_of_le q
    have := whileN_more _ k env st h1
    rw [← hk] at this; exact this.symm
theorem ds_while {ss : List Stmt} {body : FS} (hc : DT Γ c ga) (hb : DSs Γ ss body) : DS Γ (.While c ss [] pos) (whileS ga body) := by
  obtain ⟨t, p, q⟩ := hc.run
  obtain ⟨u, p1, q1⟩ := hb.run
  refine ⟨_, fun X m => ps_while m.own (p X m) (p1 X m), fun B ρ F env st σ H T S h => ?_⟩
  unfold whileS at h
  split at h
  · exact whileN_snd q q1 _ B ρ F env st σ H T S h
  · exact h.elim
end
end DL
namespace DL
open PySem PySem.Spec PyProof.Rows L2

section
variable {Γ : Ga} {K : PySem.W.Frag} {E : WX}
variable {a b c e o i : Expr} {fa fb fc fo fi : FE} {ga gb : FT} {pos p p2 : Pos} {rest es : List Expr} {fs : FA}
variable {B : Base} {ρ ρ' : List Addr} {F F' H H' : Hp} {env env' : Env} {st st' : Store} {σ σ' : L2.St} {v : V} {d : D} {s : Stmt} {ss : List Stmt} {f g : FS}
/-- nothing is let out -/
abbrev E0W : WX := fun _ _ _ _ => False
/-! ### names as targets -/
/-- only the slots vs are others, and none of these is owned anew -/
structure Off (vs : List Nat) (env env' : Env) (σ σ' : L2.St) : Prop where
  len : σ'.length = σ.length
  lenE : env'.length = env.length
  out : ∀ k, k ∉ vs → σ'[k]? = σ[k]? ∧ env'[k]? = env[k]?
  own : ∀ (k : Nat) (s : Slot), env'[k]? = some s → s.owned = true → env[k]? = some s ∧ σ'[k]? = σ[k]?
theorem Off.refl (vs : List Nat) : Off vs env env σ σ := ⟨rfl, rfl, fun _ _ => ⟨rfl, rfl⟩, fun _ _ h _ => ⟨h, rfl⟩⟩
theorem Off.trans {vs : List Nat} {e1 e2 e3 : Env} {s1 s2 s3 : L2.St} (x : Off vs e1 e2 s1 s2) (y : Off vs e2 e3 s2 s3) : Off vs e1 e3 s1 s3 :=
  ⟨y.len.trans x.len, y.lenE.trans x.lenE, fun k h => ⟨(y.out k h).1.trans (x.out k h).1, (y.out k h).2.trans (x.out k h).2⟩, fun k s h ho => by
    obtain ⟨h1, h2⟩ := y.own k s h ho
    obtain ⟨h3, h4⟩ := x.own k s h1 ho
    exact ⟨h3, h2.trans h4⟩⟩
theorem Off.mono {vs ws : List Nat} (x : Off vs env env' σ σ') (h : ∀ k ∈ vs, k ∈ ws) : Off ws env env' σ σ' := ⟨x.len, x.lenE, fun k hk => x.out k fun z => hk (h k z), x.own⟩
theorem Off.set {i : Nat} {v : V} {d : D} {vs : List Nat} (hi : i ∈ vs) : Off vs env (env.set i (.fz d)) σ (σ.set i (some v)) := by
  refine ⟨by simp, by simp, fun k hk => ?_, fun k s h ho => ?_⟩
  · have n : i ≠ k := fun z => hk (z ▸ hi)
    exact ⟨List.getElem?_set_ne n, List.getElem?_set_ne n⟩
  · by_cases e : k = i
    · subst e
      rw [List.getElem?_set] at h
      simp only [if_true] at h
      split at h
      · cases h; cases ho
      · cases h
    · rw [List.getElem?_set_ne (Ne.symm e)] at h
      exact ⟨h, List.getElem?_set_ne (Ne.symm e)⟩
abbrev FGn := D → Env → Option Env
structure DGn (Γ : Ga) (e : Expr) (vs : List Nat) (g : FGn) : Prop where
  run : ∃ t, (∀ X, Mt Γ X → PG X e t) ∧ ∀ B ρ F env st σ H v d Q env', Sim Γ.K B ρ F env st σ H → Rp Γ.K ρ F v d → g d env = some env' → (∀ σ', Sim Γ.K B ρ F env' st σ' H → Off vs env env' σ σ' → Q σ' H) → t v σ H Q
def nmN (i : Nat) : FGn := fun d env => some (env.set i (.fz d))
theorem dgn_name (i : Nat) {x : Str} (hi : Γ.N[i]? = some x := by rfl) (hN : Γ.N.Nodup := by assumption) (hx : Loc Γ.sc x := by first | exact .inl rfl | exact .inr rfl) (hf : Γ.fn x = true ∨ Γ.sc.names.lookup x = some .local := by first | exact .inl rfl | exact .inr rfl) : DGn Γ (.Name x pos) [i] (nmN i) :=
  ⟨_, fun X m => pg_name (by rw [m.N]; exact hN) (by rw [m.N]; exact hi) (by rw [m.sc]; exact hx) (hf.elim (fun h => .inl (m.fn x h)) (fun h => .inr (by rw [m.sc]; exact h))), fun B ρ F env st σ H v d Q env' S r e h => by
    cases e
    exact h _ (S.set r) (Off.set (by simp))⟩
abbrev FGns := List D → Env → Option Env
structure DGns (Γ : Ga) (es : List Expr) (vs : List Nat) (g : FGns) : Prop where
  run : ∃ t : TGs, (∀ X, Mt Γ X → PGs X es t) ∧ ∀ B ρ F env st σ H us ds Q env', Sim Γ.K B ρ F env st σ H → RpL Γ.K ρ F us ds → g ds env = some env' → (∀ σ', Sim Γ.K B ρ F env' st σ' H → Off vs env env' σ σ' → Q σ' H) → t us σ H Q
def nilN : FGns := fun ds env => match ds with
  | [] => some env
  | _ => none
def consN (g : FGn) (r : FGns) : FGns := fun ds env => match ds with
  | d :: ds => (g d env).bind (r ds)
  | _ => none
theorem dgns_nil : DGns Γ [] [] nilN := ⟨_, fun X m => pgs_nil, fun B ρ F env st σ H vs ds Q env' S r e h => by
  cases r with
  | nil => cases e; exact ⟨rfl, h σ S (.refl _)⟩
  | cons _ _ => cases e⟩
theorem dgns_cons {vs ws : List Nat} {g : FGn} {r : FGns} (h : DGn Γ e vs g) (h' : DGns Γ es ws r) (hs : ∀ env : PySem.Env, (assignEach (e :: es) env).map (·.2) = assign e env :: (assignEach es env).map (·.2) := by intro _; rfl) : DGns Γ (e :: es) (vs ++ ws) (consN g r) := by
  obtain ⟨t, p, q⟩ := h.run
  obtain ⟨u, p', q'⟩ := h'.run
  refine ⟨_, fun X m => pgs_cons (p X m) (p' X m) (hs X.env), fun B ρ F env st σ H us ds Q env' S rr he h => ?_⟩
  cases rr with
  | nil => cases he
  | cons r1 r2 =>
    rename_i v d us ds
    unfold consN at he
    obtain ⟨e1, h1, h2⟩ := Option.bind_eq_some_iff.mp he
    exact ⟨v, us, rfl, q B ρ F env st σ H v d _ e1 S r1 h1 fun σ1 S1 o1 => q' B ρ F e1 st σ1 H us ds Q env' S1 r2 h2 fun σ2 S2 o2 => h σ2 S2 ((o1.mono fun k hk => List.mem_append_left _ hk).trans (o2.mono fun k hk => List.mem_append_right _ hk))⟩
def tupN (n : Nat) (g : FGns) : FGn := fun d env => match d with
  | .tup ds => if ds.length = n then g ds env else none
  | _ => none
theorem dgn_tup {n k : Nat} {vs : List Nat} {g : FGns} (h : DGns Γ es vs g) (hn : ∀ env : PySem.Env, (assignEach es env).length = n := by intro _; rfl) (hst : ∀ env : PySem.Env, (assignEach es env).findIdx? (·.1) = none := by intro _; rfl) : DGn Γ (.Tuple es k pos) vs (tupN n g) := by
  obtain ⟨t, p, q⟩ := h.run
  refine ⟨gTup Γ.K n t, fun X m => ?_, fun B ρ F env st σ H v d Q env' S r he h => ?_⟩
  · have h := pg_tup (pos := pos) (k := k) m.calm (p X m) (hn X.env) (hst X.env)
    rw [m.K] at h
    exact h
  · unfold tupN at he
    split at he
    · split at he
      · rename_i hl
        cases r with
        | tup h1 r1 => exact ⟨_, _, rfl, (sqU_mono S.so.sub h1).t, by rw [r1.length]; exact hl, q B ρ F env st σ H _ _ Q env' S r1 he h⟩
      · cases he
    · cases he
def ofN (g : FGn) : FG := fun d env st => match g d env with
  | some e => .nx e st
  | none => .no
theorem dg_of {vs : List Nat} {g : FGn} (h : DGn Γ e vs g) : DG Γ e (ofN g) := by
  obtain ⟨t, p, q⟩ := h.run
  refine ⟨t, p, fun B ρ F env st σ H v d Q S r h => ?_⟩
  unfold ofN at h
  split at h
  · rename_i e1 he
    exact q B ρ F env st σ H v d Q e1 S r he fun σ' S' _ => h ρ F σ' H S' (.refl _) (.refl _)
  · exact h.elim

/-! ### comprehensions -/
def noE {α : Type} (r : Res α) : Res α := match r with
  | .err _ _ _ => .no
  | r => r
def lcL (g : FGn) (test : FT) (el : FE) (env0 : Env) : List D → Store → Res (List D)
  | [], st => .ok [] st
  | d :: r, st => match g d env0 with
    | none => .no
    | some e => (noE (test e st)).bind fun b s => if b = true then (noE (el e s)).bind fun y s2 => if y.isSl = true then .no else (lcL g test el env0 r s2).bind fun ys s3 => .ok (y :: ys) s3
      else lcL g test el env0 r s
def wipeE (env : Env) : List Nat → Env
  | [] => env
  | v :: vs => (wipeE env vs).set v .un
def notOwned (env : Env) (vs : List Nat) : Bool := vs.all fun i => match env[i]? with
  | some s => !s.owned
  | none => true
def lcN (it : FI) (g : FGn) (test : FT) (el : FE) (vs : List Nat) : FN := fun env st => (it env st).bind fun ds s => if ds.length ≤ sizeLine ∧ notOwned env vs = true then lcL g test el (wipeE env vs) ds s else .no
theorem wipeE_len (env : Env) : ∀ vs : List Nat, (wipeE env vs).length = env.length
  | [] => rfl
  | v :: vs => by simp [wipeE, wipeE_len env vs]
theorem wipeE_get {env : Env} {i : Nat} {s : Slot} : ∀ {vs : List Nat}, (wipeE env vs)[i]? = some s → (i ∉ vs ∧ env[i]? = some s) ∨ (i ∈ vs ∧ s = .un)
  | [], h => .inl ⟨by simp, h⟩
  | v :: vs, h => by
    unfold wipeE at h
    by_cases e : i = v
    · subst e
      rw [List.getElem?_set] at h
      simp only [if_true] at h
      split at h
      · cases h; exact .inr ⟨by simp, rfl⟩
      · cases h
    · rw [List.getElem?_set_ne (Ne.symm e)] at h
      rcases wipeE_get h with ⟨h1, h2⟩ | ⟨h1, h2⟩
      · exact .inl ⟨by simp [h1, e], h2⟩
      · exact .inr ⟨by simp [h1], h2⟩
theorem wipe_get {σ : L2.St} {i : Nat} : ∀ {vs : List Nat}, i ∉ vs → (wipe σ vs)[i]? = σ[i]? := fun {vs} h => wipe_out h
theorem wipeE_out {env : Env} {i : Nat} : ∀ {vs : List Nat}, i ∉ vs → (wipeE env vs)[i]? = env[i]?
  | [], _ => rfl
  | v :: vs, h => by
    unfold wipeE
    rw [List.getElem?_set_ne (fun z => h (by simp [z]))]
    exact wipeE_out fun z => h (by simp [z])
theorem wipe_in {σ : L2.St} {i : Nat} : ∀ {vs : List Nat}, i ∈ vs → i < σ.length → (wipe σ vs)[i]? = some none
  | v :: vs, h, hl => by
    unfold wipe
    by_cases e : i = v
    · subst e
      rw [List.getElem?_set_self (by rw [wipe_length]; exact hl)]
    · rw [List.getElem?_set_ne (Ne.symm e)]
      exact wipe_in (by simpa [e] using h) hl
theorem wipe_same {σ σ' : L2.St} {vs : List Nat} (hl : σ'.length = σ.length) (h : ∀ k, k ∉ vs → σ'[k]? = (wipe σ vs)[k]?) : wipe σ' vs = wipe σ vs := by
  refine List.ext_getElem? fun k => ?_
  by_cases hk : k ∈ vs
  · by_cases hlt : k < σ.length
    · rw [wipe_in hk hlt, wipe_in hk (by rw [hl]; exact hlt)]
    · rw [List.getElem?_eq_none (by rw [wipe_length, hl]; omega), List.getElem?_eq_none (by rw [wipe_length]; omega)]
  · rw [wipe_get hk, h k hk]
theorem off_wipe {vs : List Nat} : Off vs env (wipeE env vs) σ (wipe σ vs) :=
  ⟨wipe_length _ _, wipeE_len _ _, fun k hk => ⟨wipe_get hk, wipeE_out hk⟩, fun k s h ho => by
    rcases wipeE_get h with ⟨h1, h2⟩ | ⟨_, h2⟩
    · exact ⟨h2, wipe_get h1⟩
    · subst h2; cases ho⟩
theorem Sim.off {vs : List Nat} (S : Sim K B ρ F env st σ H) : Sim K B ρ F (wipeE env vs) st (wipe σ vs) H := by
  refine S.slots (by rw [wipeE_len, wipe_length]; exact S.len) fun i s h => ?_
  rcases wipeE_get h with ⟨h1, h2⟩ | ⟨_, h2⟩
  · exact .inl ⟨h2, wipe_get h1⟩
  · exact .inr (.inl h2)
/-- a list that no one knows is changed -/
structure AloneO (K : PySem.W.Frag) (B : Base) (ρ : List Addr) (F H : Hp) (env : Env) (σ : L2.St) (a : Addr) (o : HO) : Prop where
  at_ : H a = some o
  nF : F a = none
  nρ : a ∉ ρ
  nO : ¬ OwnS env σ a
  nB : B.H a = none ∨ B.O a
  nT : ∀ xs, o ≠ .tup xs := by intro _; exact HO.noConfusion
abbrev Alone (K : PySem.W.Frag) (B : Base) (ρ : List Addr) (F H : Hp) (env : Env) (σ : L2.St) (a : Addr) (vs : List V) : Prop := AloneO K B ρ F H env σ a (.lst vs)
theorem Sim.alone {a : Addr} {vs us : List V} (S : Sim K B ρ F env st σ H) (A : Alone K B ρ F H env σ a vs) : Sim K B ρ F env st σ (upd H a (.lst us)) where
  so := S.so.lst A.at_ A.nF A.nρ
  len := S.len
  sl := fun j t hj => (S.sl j t hj).mono (.refl _) (.refl _) fun x hx ht => by
    obtain ⟨y, g1, g2, g3, o, g4⟩ := (S.sl j t hj).own ht
    cases hx.inj g1
    have nx : x ≠ a := fun z => A.nO ⟨j, t, hj, ht, z ▸ hx⟩
    exact ⟨g2, g3, fun o h => by rw [upd_ne nx]; exact h⟩
  apart := S.apart
  ownO := S.ownO
  lg := S.lg
  fs := S.fs
  fnew := S.fnew
  rnew := S.rnew
  keep := fun x o hx q1 q2 => by
    have n : x ≠ a := fun z => by
      rcases A.nB with w | w
      · rw [z, w] at hx; cases hx
      · exact q2 (z ▸ w)
    rw [upd_ne n]; exact S.keep x o hx q1 q2
  ins := S.ins.trans (.lst A.at_)
/-- it stays so while other things are done -/
theorem AloneO.stay {a : Addr} {o : HO} {env2 : Env} {σ2 : L2.St} {ρ2 : List Addr} {F2 H2 : Hp} {st2 : Store} (A : AloneO K B ρ F H env σ a o) (ho : ∀ (k : Nat) (s : Slot), env2[k]? = some s → s.owned = true → env[k]? = some s ∧ σ2[k]? = σ[k]?) (T : Sim K (reb ρ F H env2 σ2) ρ2 F2 env2 st2 σ2 H2) : AloneO K B ρ2 F2 H2 env σ a o := by
  have nO2 : ¬ OwnS env2 σ2 a := fun ⟨i, s, h1, h2, h3⟩ => by
    obtain ⟨q1, q2⟩ := ho i s h1 h2
    exact A.nO ⟨i, s, q1, h2, by unfold OwnAt at *; rw [← q2]; exact h3⟩
  refine ⟨T.keep a _ A.at_ A.nρ nO2, none_of fun u hu => ?_, fun hm => ?_, A.nO, A.nB, A.nT⟩
  · rcases T.fnew a u hu with ⟨w, hw⟩ | hw | hw
    · have := A.nF; rw [show F a = some w from hw] at this; cases this
    · have := A.at_; rw [show H a = none from hw] at this; cases this
    · rcases hw with hw | ⟨xs, hw⟩
      · exact nO2 hw
      · have := A.at_; rw [show H a = some (.tup xs) from hw] at this; exact A.nT xs (Option.some.inj this).symm
  · rcases T.rnew a hm with hw | hw | hw
    · exact A.nρ hw
    · have := A.at_; rw [show H a = none from hw] at this; cases this
    · exact nO2 hw
theorem noE_out {α ω : Type} {R : List Addr → Hp → ω → α → Prop} {r : Res α} {k : α → Store → Res (List D)} {Q : VK} {Q' : ω → Hp → Prop} {B0 : Base} {env0 : Env} {σ0 : L2.St} (h : OutN K E B ρ F env σ Q ((noE r).bind k))
    (hk : ∀ d st' ρ' F' H' v, Sim K B0 ρ' F' env0 st' σ0 H' → Lg ρ ρ' → Same F F' → R ρ' F' v d → OutN K E B ρ' F' env σ Q (k d st') → Q' v H') : Out K E0W R B0 ρ F env0 σ0 Q' r := by
  cases r with
  | no => exact h
  | err c fs s => exact h.elim
  | ok d s => exact fun ρ1 F1 H1 v S l e rv => hk d s ρ1 F1 H1 v S l e rv (OutN.on (show OutN K E B ρ F env σ Q (k d s) from h) l e)
def pre (acc : List D) (r : Res (List D)) : Res (List D) := r.bind fun ys s => .ok (acc ++ ys) s
theorem pre_app (acc : List D) (y : D) (r : Res (List D)) : pre acc (r.bind fun ys s => .ok (y :: ys) s) = pre (acc ++ [y]) r := by
  cases r <;> simp [pre, Res.bind]
theorem pre_bind {α : Type} (acc : List D) (r : Res α) (k : α → Store → Res (List D)) : pre acc (r.bind k) = r.bind fun x s => pre acc (k x s) := by
  cases r <;> rfl
theorem snd_lc {wi : TI} {tg : TG} {tt : TT} {te : TE} {it : FI} {g : FGn} {test : FT} {el : FE} {vs : List Nat} (hi : SndI K E wi it)
    (hg : ∀ B ρ F env st σ H v d Q env', Sim K B ρ F env st σ H → Rp K ρ F v d → g d env = some env' → (∀ σ', Sim K B ρ F env' st σ' H → Off vs env env' σ σ' → Q σ' H) → tg v σ H Q) (ht : SndT K E0W tt test) (he : SndE K E0W te el) :
    SndN K E (tLc wi tg tt te vs) (lcN it g test el vs) := fun B ρ F env st σ H Q S h =>
  hi B ρ F env st σ H _ S (OutN.bind h fun ds s1 ρ1 F1 H1 J S1 l1 e1 iter h1 => by
    split at h1
    · rename_i hc
      obtain ⟨hlen, hno⟩ := hc
      intro Dl hD
      obtain ⟨G, Y, w, hG, hY⟩ := iter
      have h1' : OutN K E B ρ1 F1 env σ Q (pre [] (lcL g test el (wipeE env vs) ds s1)) := by
        cases hr : lcL g test el (wipeE env vs) ds s1 with
        | no => rw [hr] at h1; exact h1
        | err _ _ _ => rw [hr] at h1; exact h1
        | ok a b => rw [hr] at h1; exact h1
      refine lc_it w (fun i H' => ∃ ρ' F' st' acc vacc, Sim K B ρ' F' env st' σ H' ∧ Lg ρ1 ρ' ∧ Same F1 F' ∧ Alone K B ρ' F' H' env σ Dl vacc ∧ RpL K ρ' F' vacc acc ∧ acc.length ≤ i ∧ OutN K E B ρ' F' env σ Q (pre acc (lcL g test el (wipeE env vs) (ds.drop i) st')))
        ⟨ρ1, F1, s1, [], [], S1.more (same_new hD), .refl _, .refl _, ⟨upd_same, S1.noF hD, S1.noρ hD, S1.noOwn hD, S1.back hD, fun _ => HO.noConfusion⟩, .nil, Nat.le_refl _, h1'⟩
        (fun i H' _ ⟨ρ', F', st', acc, vacc, S', l', e', _⟩ => hG H' (e'.trans S'.so.sub)) (fun i x H' H'' hi' ⟨ρ', F', st', acc, vacc, S', l', e', A', r', hacc, h'⟩ y => ?_) (fun H' ⟨ρ', F', st', acc, vacc, S', l', e', A', r', hacc, h'⟩ => ?_)
      · obtain ⟨d, hd, hx⟩ := hY i H' x H'' y
        obtain ⟨F2, S2, f2, r2, hk⟩ := item_ok (Y := Y) S' l' e' hd hx
        have A2 : Alone K B ρ' F2 H'' env σ Dl vacc := ⟨(hk _ _ A'.at_ A'.nT).1, (hk _ _ A'.at_ A'.nT).2.trans A'.nF, A'.nρ, A'.nO, A'.nB, fun _ => HO.noConfusion⟩
        have hdr : ds.drop i = d :: ds.drop (i + 1) := by
          obtain ⟨hlt, he⟩ := List.getElem?_eq_some_iff.mp hd
          rw [List.drop_eq_getElem_cons hlt, he]
        rw [hdr] at h'
        unfold lcL at h'
        have h2 := OutN.on h' (.refl _) f2
        cases hge : g d (wipeE env vs) with
        | none => rw [hge] at h2; exact h2.elim
        | some e1 =>
          rw [hge] at h2
          simp only [pre_bind] at h2
          refine hg B ρ' F2 (wipeE env vs) st' (wipe σ vs) H'' x d _ e1 S2.off r2 hge fun σ2 S3 o3 => ⟨wipe_same (o3.len.trans (wipe_length _ _)) fun k hk => (o3.out k hk).1, ?_⟩
          have off : Off vs env e1 σ σ2 := off_wipe.trans o3
          have back : ∀ (k : Nat) (s : Slot), env[k]? = some s → s.owned = true → e1[k]? = some s ∧ σ2[k]? = σ[k]? := fun k s hk ho => by
            have hkv : k ∉ vs := fun hm => by
              have := List.all_eq_true.mp hno k hm
              rw [hk] at this
              simp only [ho] at this
              cases this
            obtain ⟨q1, q2⟩ := off.out k hkv
            exact ⟨q2.trans hk, q1⟩
          refine ht (reb ρ' F2 H'' e1 σ2) ρ' F2 e1 st' σ2 H'' _ S3.rebase (noE_out h2 fun bb st3 ρ3 F3 H3 vb T3 l3 f3 rb h3 => ?_)
          have A3 := A2.stay off.own T3
          have S4 := S3.trans T3
          subst rb
          cases vb with
          | false =>
            exact ⟨ρ3, F3, st3, acc, vacc, S2.restore S4 l3 f3 back, l'.trans l3, (e'.trans f2).trans f3, A3, (r'.mono (.refl _) f2).mono l3 f3, by omega, h3⟩
          | true =>
            simp only [if_true] at h3 ⊢
            rw [pre_bind] at h3
            refine he (reb ρ3 F3 H3 e1 σ2) ρ3 F3 e1 st3 σ2 H3 _ S4.rebase (noE_out h3 fun yy st4 ρ4 F4 H4 vy T4 l4 f4 ry h4 => ?_)
            have A4 := A3.stay off.own T4
            have S5 := S2.restore (S4.trans T4) (l3.trans l4) (f3.trans f4) back
            have r5 := ((r'.mono (.refl _) f2).mono l3 f3).mono l4 f4
            split at h4
            · exact h4.elim
            · rename_i hsl
              have hi2 : i < ds.length := (List.getElem?_eq_some_iff.mp hd).1
              rw [pre_app] at h4
              refine ⟨vacc, A4.at_, by rw [r5.length]; omega, ρ4, F4, st4, acc ++ [yy], vacc ++ [vy], S5.alone A4, (l'.trans l3).trans l4, ((e'.trans f2).trans f3).trans f4, ⟨upd_same, A4.nF, A4.nρ, A4.nO, A4.nB, fun _ => HO.noConfusion⟩, r5.append (.cons (ry.rp (by simpa using hsl)) .nil), by rw [List.length_append]; simp; exact hacc, h4⟩
      · rw [List.drop_length] at h'
        simp only [lcL, pre, Res.bind, List.append_nil] at h'
        exact h' ρ' F' H' Dl vacc S' (.refl _) (.refl _) A'.at_ A'.nF A'.nρ A'.nO A'.nB r'
    · exact h1.elim)
/-- where a comprehension's block stands -/
def Ga.blk (Γ : Ga) (scope : Scope) : Ga := { Γ with sc := relS scope Γ.sc, fn := fun x => scope.names.lookup x == some .cell && x != "", E := E0W }
theorem Mt.blk {X : Cx} (m : Mt Γ X) (s : Shared) (H : Hp) (scope : Scope) (C : Addr) (cl : List (Str × Addr)) (fp : List Addr) : Mt (Γ.blk scope) (X.blk s H scope (compEnvC scope cl C X.env) fp) where
  P := m.P
  w := m.w
  K := m.K
  mg := m.mg
  base := m.base
  N := m.N
  sc := by
    show relS scope X.env.scope = relS scope Γ.sc
    rw [m.sc]
  fn := fun x h => (Bool.and_eq_true_iff.mp h).1
  calm := m.calm
  room := m.room
  own := PassesOwn.never
  tk := takes0
  stk := fun h => absurd (Bool.and_eq_true_iff.mp h).2 (by simp)
/-- a clause's tests -/
structure DTs (Γ : Ga) (es : List Expr) (f : FT) : Prop where
  run : ∃ t, (∀ X, Mt Γ X → PTs X es t) ∧ SndT Γ.K Γ.E t f
def yesT : FT := fun _ st => .ok true st
theorem dts_nil : DTs Γ [] yesT := ⟨_, fun X m => pts_nil, fun B ρ F env st σ H Q S h => h.ret S rfl⟩
theorem dts_one (h : DT Γ c ga) : DTs Γ [c] ga := by
  obtain ⟨t, p, q⟩ := h.run
  exact ⟨t, fun X m => pts_one (p X m), q⟩
theorem dn_lc {elt tg iter : Expr} {ifs : List Expr} {scope : Scope} {vs ws : List Nat} {it : FI} {gn : FGn} {test : FT} {el : FE} (own : List (Str × Nat)) (hi : DI Γ tg iter it) (ok : blkC Γ.N Γ.sc scope own = true) (hg : DGn (Γ.blk scope) tg ws gn) (ht : DTs (Γ.blk scope) ifs test) (he : DE (Γ.blk scope) elt el) (hv : own.map (·.2) = vs := by rfl) (hw : ∀ k ∈ ws, k ∈ vs := by decide) (hN : Γ.N.Nodup := by assumption)
    (hs : ∀ (env : PySem.Env) x, foldedSetIterable iter env x = pure x := by intro _ _; rfl) : DN Γ (.ListComp elt [⟨tg, iter, ifs, 0⟩] scope pos) (lcN it gn test el vs) := by
  obtain ⟨wi, p, q⟩ := hi.run
  obtain ⟨t, p1, q1⟩ := hg.run
  obtain ⟨u, p2, q2⟩ := ht.run
  obtain ⟨x, p3, q3⟩ := he.run
  subst hv
  refine ⟨_, fun X m => pe_lc m.calm (by rw [m.N]; exact hN) (p X m) (blkOk_by (by rw [m.N, m.sc]; exact ok)) (fun s H C cl fp => p1 _ (m.blk s H scope C cl fp)) (fun s H C cl fp => p2 _ (m.blk s H scope C cl fp)) (fun s H C cl fp => p3 _ (m.blk s H scope C cl fp)) (hs X.env), snd_lc q (fun B ρ F env st σ H v d Q env' S r e h => q1 B ρ F env st σ H v d Q env' S r e fun σ' S' o => h σ' S' (o.mono hw)) q2 q3⟩
/-- y = [..], y a local of the def; frozen -/
theorem ds_setLc (j : Nat) {y : Str} {py spos : Pos} {elt tg iter : Expr} {ifs : List Expr} {scope : Scope} {vs ws : List Nat} {it : FI} {gn : FGn} {test : FT} {el : FE} (own : List (Str × Nat)) (hi : DI Γ tg iter it) (ok : blkC Γ.N Γ.sc scope own = true) (hg : DGn (Γ.blk scope) tg ws gn) (ht : DTs (Γ.blk scope) ifs test) (he : DE (Γ.blk scope) elt el) (hy : Γ.N[j]? = some y := by rfl) (hyl : Γ.sc.names.lookup y = some .local := by rfl)
    (hsw : Γ.sc.kind = .function ∧ (py.line == pos.line) = true ∧ (scope.names.any fun (n, k) => n == y && (k == .local || k == .cell)) = false := by first | exact ⟨rfl, rfl, by decide +kernel⟩ | exact ⟨rfl, rfl, rfl⟩) (hv : own.map (·.2) = vs := by rfl) (hw : ∀ k ∈ ws, k ∈ vs := by decide) (hN : Γ.N.Nodup := by assumption)
    (hs : ∀ (env : PySem.Env) x, foldedSetIterable iter env x = pure x := by intro _ _; rfl) : DS Γ (.Assign [.Name y py] (.ListComp elt [⟨tg, iter, ifs, 0⟩] scope pos) spos) (ownS j (lcN it gn test el vs)) := by
  obtain ⟨wi, p, q⟩ := hi.run
  obtain ⟨t, p1, q1⟩ := hg.run
  obtain ⟨u, p2, q2⟩ := ht.run
  obtain ⟨x, p3, q3⟩ := he.run
  subst hv
  have sn := snd_lc (vs := own.map (·.2)) q (fun B ρ F env st σ H v d Q env' S r e h => q1 B ρ F env st σ H v d Q env' S r e fun σ' S' o => h σ' S' (o.mono hw)) q2 q3
  refine ⟨_, fun X m => ps_setLc (i := j) m.calm (by rw [m.N]; exact hN) (by rw [m.N]; exact hy) (by rw [m.sc]; exact hyl) (sw_true (by rw [m.sc]; exact hsw.1) (by rw [m.sc]; exact hyl) hsw.2.1 hsw.2.2) (p X m) (blkOk_by (by rw [m.N, m.sc]; exact ok)) (fun s H C cl fp => p1 _ (m.blk s H scope C cl fp)) (fun s H C cl fp => p2 _ (m.blk s H scope C cl fp)) (fun s H C cl fp => p3 _ (m.blk s H scope C cl fp)) (hs X.env), fun B ρ F env st σ H D S h => sn B ρ F env st σ H _ S ?_⟩
  unfold ownS at h
  cases hr : lcN it gn test el (own.map (·.2)) env st with
  | no => rw [hr] at h; exact h
  | err c fs s => rw [hr] at h; exact fun ρ1 F1 H1 od S1 l1 e1 x => h ρ1 F1 σ H1 od S1 l1 e1 x
  | ok ds s =>
    rw [hr] at h
    intro ρ1 F1 H1 a vs S1 l1 e1 g1 g2 g3 g4 g5 g6
    exact h ρ1 F1 _ H1 (S1.setOwn g4 g5 (fun hlt => ⟨a, vs, by unfold OwnAt; rw [List.getElem?_set_self hlt], g2, g3, g1, g6⟩) rfl) l1 e1
/-- behind a statement an owned list is frozen -/
def thenFrz (i : Nat) (f : FS) : FS := fun env st => match f env st with
  | .nx e s => match e[i]? with
    | some (.ol xs) => .nx (e.set i (.fz (.lst xs))) s
    | _ => .no
  | r => r
theorem ds_thenFrz (i : Nat) (h : DS Γ s f) : DS Γ s (thenFrz i f) := by
  obtain ⟨t, p, q⟩ := h.run
  refine ⟨t, p, fun B ρ F env st σ H D S h => q B ρ F env st σ H D S ?_⟩
  unfold thenFrz at h
  cases hr : f env st with
  | nx e s =>
    rw [hr] at h
    simp only at h
    split at h
    · rename_i xs hi
      intro ρ1 F1 σ1 H1 S1 l1 e1
      obtain ⟨F2, S2, e2⟩ := S1.frzSlot hi
      exact h ρ1 F2 σ1 H1 S2 l1 (e1.trans e2)
    · exact h.elim
  | _ => rw [hr] at h; exact h

/-! ### a def -/
def env0 (N : Nat) (ds : List D) : Env := ds.map .fz ++ List.replicate (N - ds.length) .un
/-- what a def's body makes of its arguments -/
def runF (N : Nat) (body : FS) : Fn := fun ds st => match body (env0 N ds) st with
  | .rt d s => .ok d s
  | .nx _ s => .ok .non s
  | .err c fs _ s => .err c fs s
  | _ => .no
theorem sim_start {N : List Str} {vs : List V} {ds : List D} (S : StOk K ρ F H st) (r : RpL K ρ F vs ds) (hl : vs.length ≤ N.length) : Sim K ⟨ρ, F, H, fun _ => False⟩ ρ F (env0 N.length ds) st (L2.start N vs) H where
  so := S
  len := by simp [env0, L2.start, r.length]
  sl := fun i s hi => by
    unfold env0 at hi
    by_cases h : i < ds.length
    · rw [List.getElem?_append_left (by simpa using h), List.getElem?_map] at hi
      cases hd : ds[i]? with
      | none => rw [hd] at hi; cases hi
      | some d =>
        rw [hd] at hi
        cases hi
        obtain ⟨v, h1, h2⟩ := r.get hd
        refine ⟨v, ?_, h2⟩
        unfold L2.start
        rw [List.getElem?_append_left (by simp [r.length, h]), List.getElem?_map, h1]
        rfl
    · rw [List.getElem?_append_right (by simpa using h)] at hi
      have := List.mem_of_getElem? hi
      rw [List.eq_of_mem_replicate this]
      trivial
  apart := fun i j s t a h1 h2 h3 => by
    have := List.mem_of_getElem? h1
    unfold env0 at this
    rcases List.mem_append.mp this with h | h
    · obtain ⟨d, _, rfl⟩ := List.mem_map.mp h; cases h3
    · rw [List.eq_of_mem_replicate h] at h3; cases h3
  ownO := fun i s a h1 h3 => by
    have := List.mem_of_getElem? h1
    unfold env0 at this
    rcases List.mem_append.mp this with h | h
    · obtain ⟨d, _, rfl⟩ := List.mem_map.mp h; cases h3
    · rw [List.eq_of_mem_replicate h] at h3; cases h3
  lg := .refl _
  fs := .refl _
  fnew := fun a o h => .inl ⟨o, h⟩
  rnew := fun a h => .inl h
  keep := fun a o h _ _ => h
  ins := .refl _
theorem Sim.grew {st2 : Store} (S : Sim K ⟨ρ, F, H, fun _ => False⟩ ρ' F' env st' σ H') : Grow K ρ F H ρ' F' H' st' where
  so := S.so
  lg := S.lg
  fs := S.fs
  fnew := fun a o h => (S.fnew a o h).imp id fun h => h.imp id fun h => h.elim False.elim id
  rnew := fun a h => (S.rnew a h).imp id fun h => h.elim id False.elim
  keep := fun a o h h1 => S.keep a o h h1 id
  ins := S.ins
/-- THE RULE for a def -/
theorem df_of {P : Program} {w : World} {mg : Str → Option Value} {base : Heap} {x qual : Str} {sd : Stmt} {fa : Addr} {fd : FuncData} {N ps : List Str} {k : Nat} {body : FS} (Fu : Fun K x qual sd fa fd) (Sc : FnScope N ps (defScope sd))
    (h : ∀ E, DSs ⟨P, w, K, mg, base, N, defScope sd, fun _ => true, k, E⟩ (defBody sd) body) : FnOk P w K mg base (L2.CX P w) (k + 1) fa fd ps (spD K ps.length (runF N.length body)) := by
  refine Fu.okX Sc (fun vs H Q E h => h.1) (fun cdv A outer s H vs Q E hr hsp => ?_)
  obtain ⟨hl, ρ, F, st, ds, S, r, hout⟩ := hsp
  obtain ⟨t, p, q⟩ := (h (fun cls d _ H => E cls d H)).run
  have hpl : ps.length ≤ N.length := by have := congrArg List.length Sc.pre; rw [List.length_take] at this; omega
  have tk : Takes (cxOf (L2.CX P w) P w K mg base N qual (defScope sd) fa cdv A outer s H E) (fun cls d _ H => E cls d H) := takes_of rfl rfl rfl rfl
  refine ⟨t, p _ ⟨rfl, rfl, rfl, rfl, rfl, rfl, rfl, fun _ _ => rfl, rfl, hr, passes_of rfl, tk, fun _ => ⟨rfl, rfl⟩⟩, q _ ρ F (env0 N.length ds) st (L2.start N vs) H _ (sim_start S r (by omega)) ?_⟩
  unfold runF at hout
  cases hb : body (env0 N.length ds) st with
  | no => rw [hb] at hout; exact hout
  | bk _ _ => rw [hb] at hout; exact hout.elim
  | ct _ _ => rw [hb] at hout; exact hout.elim
  | rt d s => rw [hb] at hout; exact fun ρ' F' e' σ' H' v S' _ _ r => hout ρ' F' H' v (S'.grew (st2 := [])) r
  | nx e s => rw [hb] at hout; exact fun ρ' F' σ' H' S' _ _ => hout ρ' F' H' .non (S'.grew (st2 := [])) .non
  | err c fs e s => rw [hb] at hout; exact fun ρ' F' σ' H' od S' _ _ x => hout ρ' F' H' od (S'.grew (st2 := [])) x
end
end DL
namespace DL
open PySem PySem.Spec PyProof.Rows L2
open AutoSeq1 (wpAny_loadPart')
/-! ### enumerate of a tuple -/
theorem meets_enumT (l : Addr) (its : Array Value) (n : Nat) (dct : Option Addr) (sl : Array (Option Value)) :
    Meets (Builtin.«enumerate.__new__» ⟨[.type "enumerate", .ref l], []⟩) (fun _ R z => z.heap.get? l = some { cls := .type "tuple", dict := dct, data := .seq its n, slots := sl } ∧
      R (.ok (.ret (.ref (z.heap.push { cls := .type "tuple_iterator", data := .fields #[.ref l, .int 0 0] }).objs.size)))
        { z with heap := (z.heap.push { cls := .type "tuple_iterator", data := .fields #[.ref l, .int 0 0] }).push { cls := .type "enumerate", data := .fields #[.none, .bool false, .ref z.heap.objs.size, rawInt 0, .none, .none] } }) :=
  .of_wp fun prog w A R z hq => by
    obtain ⟨hp, g, d, tk, os⟩ := z; obtain ⟨hl, hq⟩ := hq
    have hsub := sub_enumerate
    have hT : Heap.IsTuple (Shared.heap ⟨hp, g, d, tk, os⟩) l its := ⟨_, hl, rfl, n, rfl⟩
    wp_walk using wpAny_loadPart' hl
    refine wpAny_stack_any fun stk => wpAny_pure ?_
    split
    · rename_i c _ _ _ _ _
      cases (c == Value.type "enumerate") <;> (wp_walk using wpAny_loadPart' hl, wpAny_pyIter_tuple hT; exact ⟨_, rfl, hq⟩)
    · wp_walk using wpAny_loadPart' hl, wpAny_pyIter_tuple hT
      exact ⟨_, rfl, hq⟩
theorem call_enumT {prog : Program} {w : World} {A : Around} {E : Value → Shared → Prop} {z : Shared} {l : Addr} {its : Array Value} {Q : Value → Shared → Prop} (hL : z.heap.IsTuple l its)
    (hq : ∀ h', IsEnum h' (z.heap.objs.size + 1) z.heap.objs.size 0 .none → h'.IsTupleIter z.heap.objs.size l 0 → (∀ b o, z.heap.get? b = some o → h'.get? b = some o) → Q (.ref (z.heap.objs.size + 1)) { z with heap := h' }) :
    wpAny (model prog w) A (call (.type "enumerate") [.ref l]) Q E z := by
  obtain ⟨⟨c, dct, dt, sl⟩, hl, hc, n, hd⟩ := hL
  simp only at hc hd
  subst hc hd
  refine callType_new F.called_enumerate (by decide) (F.typeCall_enumerate_1 _) (F.newCall_enumerate_1 _) (fun obj => F.args_object_init_2 obj _) F.entry_enumerate_new (meets_enumT l its n dct sl) ⟨hl, ?_⟩
  have hz : (z.heap.push { cls := .type "tuple_iterator", data := .fields #[.ref l, .int 0 0] }).objs.size = z.heap.objs.size + 1 := Heap.size_push ..
  show _ ∧ _
  rw [hz]
  have he : IsEnum ((z.heap.push { cls := .type "tuple_iterator", data := .fields #[.ref l, .int 0 0] }).push { cls := .type "enumerate", data := .fields #[.none, .bool false, .ref z.heap.objs.size, rawInt 0, .none, .none] }) (z.heap.objs.size + 1) z.heap.objs.size 0 .none := by
    have := Heap.get?_push_size (z.heap.push { cls := .type "tuple_iterator", data := .fields #[.ref l, .int 0 0] }) (o := { cls := .type "enumerate", data := .fields #[.none, .bool false, .ref z.heap.objs.size, rawInt 0, .none, .none] }) rfl
    rw [hz] at this; exact this
  exact ⟨⟨_, he, rfl⟩, hq _ he ⟨_, Heap.get?_push_of_some _ (Heap.get?_push_size _ rfl), rfl, rfl⟩ fun b o x => Heap.get?_push_of_some _ (Heap.get?_push_of_some _ x)⟩
theorem enumT_end {prog : Program} {w : World} {A : Around} {E : Value → Shared → Prop} {z : Shared} {e it l : Addr} {i : Nat} {its : Array Value} {old : Value} {Q : Option Value → Shared → Prop} (hh : A.handled = none) (he : IsEnum z.heap e it i old) (hit : z.heap.IsTupleIter it l i) (hl : z.heap.IsTuple l its) (hx : its[i]? = none)
    (hQ : ∀ h', Heap.ExtBut it z.heap h' → Q none { z with heap := h' }) : wpAny (model prog w) A (pyNext (.ref e)) Q E z := by
  have tE : z.TypeIs (.ref e) "enumerate" := ⟨_, he, rfl⟩
  unfold pyNext
  refine wpAny_bind (wpAny_attempt (wpAny_callSpecial?_slot (name := Str.ofString "__next__") tE F.slot_enumerate_next (wpAny_call_entry F.slot_enumerate_next tE F.entry_enumerate_next ?_ (F.args_enumerate_next_1 _))))
  show wpAny _ _ (field (.ref e) 2 >>= _) _ _ _
  refine wpAny_bind (wpAny_field he rfl (x := .ref it) rfl (wpAny_bind (wpAny_nextOf_tuple_end hh hit hl hx fun h' x he' hx' => ?_)))
  obtain ⟨o, ho, hc⟩ := hx'
  exact wpAny_bind (wpAny_isInstance (T := "StopIteration") (b := true) ⟨o, ho, hc⟩ isSubtype_stop (wpAny_pure (hQ _ he')))
/-- the tuple at a, each item in a new pair with its place -/
def IteT (K : PySem.W.Frag) (a : Addr) : It :=
  ⟨fun i H => ∃ (xs : List V) (x : V), SqT K H a xs ∧ xs[i]? = some x, fun i H v H' => ∃ T x, v = .ref T ∧ H T = none ∧ H' = upd H T (.tup [.int (i : Nat), x]) ∧ ∀ xs, SqT K H a xs → xs[i]? = some x, fun i H => ∃ xs : List V, SqT K H a xs ∧ xs.length ≤ i⟩
theorem turn_enumT {P : Program} {w : World} {K : PySem.W.Frag} {elts : List Expr} {kk : Nat} {tpos : Pos} (a e it : Addr) :
    Turn P w K (.Tuple elts kk tpos) (IteT K a) [e, it] e (fun i h => (∃ old, IsEnum h e it ((i : Nat) : Int) old) ∧ h.IsTupleIter it a i ∧ e ≠ it) where
  mem := by simp
  obj := fun i h stt b hb => by
    obtain ⟨⟨old, he⟩, ⟨o, ho, hc, hd⟩, _⟩ := stt
    rcases (by simpa using hb : b = e ∨ b = it) with z | z
    · exact ⟨_, z ▸ he, fun v q => by cases q⟩
    · exact ⟨o, z ▸ ho, fun v q => by rw [hd] at q; cases q⟩
  keep := fun i h h' stt k => ⟨stt.1.imp fun old he => k e (by simp) _ he, stt.2.1.at fun o q => k it (by simp) o q, stt.2.2⟩
  item := by
    intro X hP hw hK hc i pins s σ H E I hf stt hg
    subst hP hw hK
    obtain ⟨⟨old, he⟩, hit, hne⟩ := stt
    obtain ⟨xs, x, hq, hx⟩ := hg
    obtain ⟨its, rv, tp, _⟩ := I.tuple hq
    have hlt : i < its.toArray.size := by
      have h1 := (List.getElem?_eq_some_iff.mp hx).1
      rw [List.size_toArray, ← rv.length]; exact h1
    have hait : a ≠ it := fun z => by
      obtain ⟨o1, g1, g2, _⟩ := tp
      obtain ⟨o2, g3, g4, _⟩ := hit
      rw [z, g3] at g1; cases g1; rw [g4] at g2; simp at g2
    have hae : a ≠ e := fun z => by
      obtain ⟨o1, g1, g2, _⟩ := tp
      rw [z, he] at g1; cases g1; simp at g2
    have hel : e < s.heap.objs.size := Heap.lt_size he
    have hil : it < s.heap.objs.size := let ⟨_, q, _⟩ := hit; Heap.lt_size q
    refine wpAny_pyNext_enum_itemD (Draws.tuple (A := X.A.in1) (I.ok.hd hc) it a hait its.toArray) he ⟨hit, tp⟩ hlt hne (by simp [hne, Ne.symm hae]) fun u h' tk hu ho hst hT hsz hkk => ?_
    obtain ⟨x', hx1, hx2⟩ : ∃ x', xs[i]? = some x' ∧ RelV x' u := by
      obtain ⟨u', q1, q2⟩ := rv.get hx
      have : u' = u := by
        have e1 : its.toArray[i]? = some u' := by simpa using q1
        rw [e1] at hu; exact Option.some.inj hu
      exact ⟨x, hx, this ▸ q2⟩
    rw [hx] at hx1; cases hx1
    refine ⟨_, rfl, wpAny_letOwnedTupleGo_enum (s := { s with heap := h', toks := tk + 1 }) ho fun h'' he' sb => ?_⟩
    have hT2 : h''.get? s.heap.objs.size = some { cls := .type "tuple", data := .seq #[.int i tk, u] } := (sb.2 _ (Nat.ne_of_gt hel)).trans hT
    have new : ObjOk X.prog X.w (upd H s.heap.objs.size (.tup [.int (i : Nat), x])) h'' s.heap.objs.size (.tup [.int (i : Nat), x]) :=
      ⟨by show 2 ≤ sizeLine; decide, [.int i tk, u], .cons ⟨_, rfl⟩ (.cons hx2 .nil), ⟨_, hT2, rfl, _, rfl⟩⟩
    have I1 : Inv X pins σ (upd H s.heap.objs.size (.tup [.int (i : Nat), x])) { s with heap := h'', toks := tk + 1 } :=
      I.turnedNew (ch := [e, it]) (fun b ob hb q => (sb.2 b (fun z => hb (by simp [z]))).trans (hkk b ob (fun z => hb (by simp [z])) (fun z => hb (by simp [z])) q)) hf (Nat.le_refl _) new
    refine ⟨.ref s.heap.objs.size, _, I1, rfl, ⟨_, x, rfl, I.hok.fresh (Nat.le_refl _), rfl, fun ys hy => by rw [I.tuple_inj hy hq]; exact hx⟩, ⟨⟨u, ?_⟩, hst.1.at fun o q => (sb.2 it (Ne.symm hne)).trans q, hne⟩, fun b hb => ?_⟩
    · rw [show ((i + 1 : Nat) : Int) = (i : Int) + 1 by omega]; exact he'
    · have hb' : b < s.heap.objs.size := by
        rcases (by simpa using hb : b = e ∨ b = it) with z | z
        · exact z ▸ hel
        · exact z ▸ hil
      rw [upd_ne (Nat.ne_of_lt hb')]
      exact (hf b hb).1
  done := by
    intro X hP hw hK hc i pins s σ H E I hf stt hg
    subst hP hw hK
    obtain ⟨⟨old, he⟩, hit, hne⟩ := stt
    obtain ⟨xs, hq, hx⟩ := hg
    obtain ⟨its, rv, tp, _⟩ := I.tuple hq
    obtain ⟨f0, f1, f2, f3, f4, f5⟩ := hf it (by simp)
    have hl := rv.length
    have hait : a ≠ it := fun z => by
      obtain ⟨o1, g1, g2, _⟩ := tp
      obtain ⟨o2, g3, g4, _⟩ := hit
      rw [z, g3] at g1; cases g1; rw [g4] at g2; simp at g2
    exact enumT_end (I.ok.hd hc) he hit tp (by simp; omega) fun h' eb => ⟨rfl, I.turned (t' := s.toks) (fun b o hb q => eb b o hb q) f0 f1 f3 f4 f5⟩
  self := fun A i s Q E stt h => let ⟨⟨_, he⟩, _⟩ := stt; wpAny_pyIter_enum he h
theorem walk_enumT {K : PySem.W.Frag} {a : Addr} {xs : List V} : Walk (IteT K a) xs.length (fun H => SqT K H a xs) (YPair (fun i => some (.int (i : Nat))) (fun i => xs[i]?)) := by
  refine ⟨fun i _ hi q => ⟨xs, xs[i], q, by simp [hi]⟩, fun _ q => ⟨xs, q, Nat.le_refl _⟩, fun i H v H' _ q y => ?_⟩
  obtain ⟨T, x, h1, h2, h3, h4⟩ := y
  exact ⟨T, .int (i : Nat), x, h1, h2, h3, rfl, h4 xs q⟩
def iEnumT (K : PySem.W.Frag) (ta : TA) : TI := fun σ H R => ta σ H fun vs H1 => ∃ a xs, vs = [.ref a] ∧ SqT K H1 a xs ∧ R (IteT K a) H1
theorem pi_enumT {X : Cx} {e : Expr} {ta : TA} {p pos tpos : Pos} {elts : List Expr} {kk : Nat} (hg : Gl X "enumerate") (hm : X.mg "enumerate" = none) (ha : PA X [e] ta) (hs : starEach [e] X.env = [(false, eval e X.env)] := by rfl) :
    PI X (.Tuple elts kk tpos) (.Call (.Name "enumerate" p) [e] [] pos) (iEnumT X.K ta) := by
  refine ⟨fun pins s σ H R I h => Call_ (ld_blt I hg hm boot_enumerate (PyProof.Rows.callWith_type1 (thn (ha.run pos pins s σ H _ I h) fun us s1 ⟨vs, H1, I1, r1, q1⟩ => ?_) hs rfl))⟩
  obtain ⟨a, xs, ex, hq, q⟩ := q1
  subst ex
  obtain ⟨u, rfl, ru⟩ := r1.one
  cases ru
  obtain ⟨its, rv, tp, _⟩ := I1.tuple hq
  refine call_enumT tp fun h' he hit hk => wpAny_pyIter_enum he ?_
  refine ⟨s1.heap.objs.size + 1, [s1.heap.objs.size + 1, s1.heap.objs.size], _, _, H1, rfl, I1.kept (t' := s1.toks) hk, turn_enumT a (s1.heap.objs.size + 1) s1.heap.objs.size, ⟨⟨.none, he⟩, hit, Nat.succ_ne_self _⟩, fun b hb => ?_, q⟩
  have hle : s1.heap.objs.size ≤ b := by
    rcases (by simpa using hb : b = s1.heap.objs.size + 1 ∨ b = s1.heap.objs.size) with z | z
    · rw [z]; exact Nat.le_add_right _ _
    · rw [z]; exact Nat.le_refl _
  exact I1.fpOk hle (I1.hok.fresh hle)

section
variable {Γ : Ga} {K : PySem.W.Frag} {E : WX}
variable {a b : Expr} {fa fb : FE} {pos p tpos : Pos} {elts : List Expr} {kk : Nat}
variable {ρ : List Addr} {F : Hp}
def enumFrom : Nat → List D → List D
  | _, [] => []
  | n, d :: r => .tup [.int n, d] :: enumFrom (n + 1) r
theorem enumFrom_get : ∀ (n : Nat) (ds : List D) (i : Nat), (enumFrom n ds)[i]? = (ds[i]?).map fun d => .tup [.int ((n + i : Nat) : Int), d]
  | _, [], _ => rfl
  | n, d :: r, 0 => rfl
  | n, d :: r, i + 1 => by
    show (enumFrom (n + 1) r)[i]? = _
    rw [enumFrom_get (n + 1) r i, show n + 1 + i = n + (i + 1) by omega]
    rfl
theorem enumFrom_length : ∀ (n : Nat) (ds : List D), (enumFrom n ds).length = ds.length
  | _, [] => rfl
  | n, _ :: r => by simp [enumFrom, enumFrom_length (n + 1) r]
theorem iter_enumT {a : Addr} {vs : List V} {ds : List D} (h : SqT K F a vs) (r : RpL K ρ F vs ds) : Iter K ρ F (IteT K a) (enumFrom 0 ds) := by
  have w := walk_enumT (K := K) (a := a) (xs := vs)
  rw [r.length] at w
  refine ⟨_, _, by rw [enumFrom_length]; exact w, fun H e => sqT_mono e h, fun i H x H' y => ?_⟩
  obtain ⟨T, x1, x2, h1, h2, h3, h4, h5⟩ := y
  cases h4
  obtain ⟨d, g1, g2⟩ := r.get' h5
  exact ⟨.tup [.int ((0 + i : Nat) : Int), d], by rw [enumFrom_get, g1]; rfl, .inr (.inl ⟨T, _, _, h1, h2, h3, rfl, by rw [Nat.zero_add]; exact .cons (.int _) (.cons g2 .nil)⟩)⟩
theorem iter_enumL {a : Addr} {vs : List V} {ds : List D} (h : SqL K F a vs) (r : RpL K ρ F vs ds) : Iter K ρ F (Ite K a) (enumFrom 0 ds) := by
  have w := walk_enum (K := K) (a := a) (xs := vs)
  rw [r.length] at w
  refine ⟨_, _, by rw [enumFrom_length]; exact w, fun H e => sqL_mono e h, fun i H x H' y => ?_⟩
  obtain ⟨T, x1, x2, h1, h2, h3, h4, h5⟩ := y
  cases h4
  obtain ⟨d, g1, g2⟩ := r.get' h5
  exact ⟨.tup [.int ((0 + i : Nat) : Int), d], by rw [enumFrom_get, g1]; rfl, .inr (.inl ⟨T, _, _, h1, h2, h3, rfl, by rw [Nat.zero_add]; exact .cons (.int _) (.cons g2 .nil)⟩)⟩
def itEnT (f : FE) : FI := fun env st => (itT f env st).bind fun ds s => .ok (enumFrom 0 ds) s
def itEnL (f : FE) : FI := fun env st => (itL f env st).bind fun ds s => .ok (enumFrom 0 ds) s
theorem itT_eq (f : FE) (k : List D → Store → Res (List D)) (env : Env) (st : Store) : (itT f env st).bind k = (f env st).bind fun d s => match d with | .tup ds => k ds s | _ => .no := by
  unfold itT
  cases f env st with
  | ok d s => cases d <;> rfl
  | _ => rfl
theorem itL_eq (f : FE) (k : List D → Store → Res (List D)) (env : Env) (st : Store) : (itL f env st).bind k = (f env st).bind fun d s => match d with | .lst ds => k ds s | .scr ds => k ds s | _ => .no := by
  unfold itL
  cases f env st with
  | ok d s => cases d <;> rfl
  | _ => rfl
theorem di_enumT (h : DE Γ a fa) (hg : Γ.sc.names.lookup ("enumerate" : Str) = some .globalImplicit) (hm : Γ.mg "enumerate" = none) (hs : ∀ env : PySem.Env, starEach [a] env = [(false, eval a env)] := by intro _; rfl) : DI Γ (.Tuple elts kk tpos) (.Call (.Name "enumerate" p) [a] [] pos) (itEnT fa) := by
  obtain ⟨t, pp, q⟩ := h.run
  refine ⟨iEnumT Γ.K (tCons t tNil), fun X m => ?_, fun B ρ F env st σ H R S h => ?_⟩
  · have h := pi_enumT (pos := pos) (p := p) (tpos := tpos) (elts := elts) (kk := kk) (show X.env.kindOf ("enumerate" : Str) = _ by unfold Env.kindOf; rw [m.sc]; exact hg) (by rw [m.mg]; exact hm) (pa_cons (pp X m) pa_nil (by rw [hs X.env]; rfl)) (hs X.env)
    rw [m.K] at h
    exact h
  · unfold itEnT at h
    rw [itT_eq] at h
    refine q B ρ F env st σ H _ S (Out.bind h fun d s1 ρ1 F1 H1 v S1 l1 e1 r1 h1 => ?_)
    split at h1
    · obtain ⟨a, vs, rfl, g1, g2⟩ := r1.tup
      exact ⟨a, vs, rfl, (sqU_mono S1.so.sub g1).t, h1.ret S1 (iter_enumT g1.t g2)⟩
    · exact h1.elim
theorem di_enumL (h : DE Γ a fa) (hg : Γ.sc.names.lookup ("enumerate" : Str) = some .globalImplicit) (hm : Γ.mg "enumerate" = none) (hs : ∀ env : PySem.Env, starEach [a] env = [(false, eval a env)] := by intro _; rfl) : DI Γ (.Tuple elts kk tpos) (.Call (.Name "enumerate" p) [a] [] pos) (itEnL fa) := by
  obtain ⟨t, pp, q⟩ := h.run
  refine ⟨iEnum Γ.K (tCons t tNil), fun X m => ?_, fun B ρ F env st σ H R S h => ?_⟩
  · have h := pi_enum (pos := pos) (p := p) (tpos := tpos) (elts := elts) (kk := kk) (show X.env.kindOf ("enumerate" : Str) = _ by unfold Env.kindOf; rw [m.sc]; exact hg) (by rw [m.mg]; exact hm) (pa_cons (pp X m) pa_nil (by rw [hs X.env]; rfl)) (hs X.env)
    rw [m.K] at h
    exact h
  · unfold itEnL at h
    rw [itL_eq] at h
    refine q B ρ F env st σ H _ S (Out.bind h fun d s1 ρ1 F1 H1 v S1 l1 e1 r1 h1 => ?_)
    split at h1
    · have r2 := r1.rp rfl
      cases r2 with
      | lst g1 g2 => exact ⟨_, _, rfl, .inl (.inl (S1.so.sub _ _ g1)), h1.ret S1 (iter_enumL (.inl (.inl g1)) g2)⟩
    · have r2 := r1.rp rfl
      cases r2 with
      | scr g1 g2 => exact ⟨_, _, rfl, sqL_mono S1.so.sub g1, h1.ret S1 (iter_enumL g1 g2)⟩
    · exact h1.elim
end
end DL
namespace DL
open PySem PySem.Spec PyProof.Rows L2
/-! ### lists and tuples alike -/
section
variable {X : Cx} {tg l e : Expr} {tl : TE} {ta : TA} {p pos tpos : Pos} {elts : List Expr} {kk : Nat}
def iSeq (K : PySem.W.Frag) (tl : TE) : TI := fun σ H R => tl σ H fun x H1 => ∃ a, x = .ref a ∧ (((∃ xs, SqL K H1 a xs) ∧ R (Itl K a) H1) ∨ ((∃ xs, SqT K H1 a xs) ∧ R (Itt K a) H1))
theorem pi_seq (hl : PE X l tl) : PI X tg l (iSeq X.K tl) := by
  refine ⟨fun pins s σ H R I h => thn (hl.run pins s σ H _ I h) fun v s1 ⟨x, H1, I1, r1, a, ex, q1⟩ => ?_⟩
  subst ex
  cases r1
  have fp : ∀ b ∈ [s1.heap.objs.size], FpOk X pins H1 b := fun b hb => by
    have e : b = s1.heap.objs.size := by simpa using hb
    rw [e]
    exact I1.fpOk (Nat.le_refl _) (I1.hok.fresh (Nat.le_refl _))
  rcases q1 with ⟨⟨xs, hq⟩, q⟩ | ⟨⟨xs, hq⟩, q⟩
  · obtain ⟨its, rv, pl, _⟩ := I1.list hq
    exact wpAny_pyIter_list pl.isList ⟨s1.heap.objs.size, [s1.heap.objs.size], _, _, H1, rfl, I1.kept (t' := s1.toks) fun b o e => Heap.get?_push_of_some _ e, turn_list a _, ⟨_, Heap.get?_push_size _ rfl, rfl, rfl⟩, fp, q⟩
  · obtain ⟨its, rv, pl, _⟩ := I1.tuple hq
    exact wpAny_pyIter_tuple (show s1.heap.IsTuple a its.toArray from pl) ⟨s1.heap.objs.size, [s1.heap.objs.size], _, _, H1, rfl, I1.kept (t' := s1.toks) fun b o e => Heap.get?_push_of_some _ e, turn_tuple a _, ⟨_, Heap.get?_push_size _ rfl, rfl, rfl⟩, fp, q⟩
def iEnumA (K : PySem.W.Frag) (ta : TA) : TI := fun σ H R => ta σ H fun vs H1 => ∃ a xs, vs = [.ref a] ∧ ((SqL K H1 a xs ∧ R (Ite K a) H1) ∨ (SqT K H1 a xs ∧ R (IteT K a) H1))
theorem pi_enumA (hg : Gl X "enumerate") (hm : X.mg "enumerate" = none) (ha : PA X [e] ta) (hs : starEach [e] X.env = [(false, eval e X.env)] := by rfl) :
    PI X (.Tuple elts kk tpos) (.Call (.Name "enumerate" p) [e] [] pos) (iEnumA X.K ta) := by
  refine ⟨fun pins s σ H R I h => Call_ (ld_blt I hg hm boot_enumerate (PyProof.Rows.callWith_type1 (thn (ha.run pos pins s σ H _ I h) fun us s1 ⟨vs, H1, I1, r1, q1⟩ => ?_) hs rfl))⟩
  obtain ⟨a, xs, ex, q1⟩ := q1
  subst ex
  obtain ⟨u, rfl, ru⟩ := r1.one
  cases ru
  have fp : ∀ b ∈ [s1.heap.objs.size + 1, s1.heap.objs.size], FpOk X pins H1 b := fun b hb => by
    have hle : s1.heap.objs.size ≤ b := by
      rcases (by simpa using hb : b = s1.heap.objs.size + 1 ∨ b = s1.heap.objs.size) with z | z
      · rw [z]; exact Nat.le_add_right _ _
      · rw [z]; exact Nat.le_refl _
    exact I1.fpOk hle (I1.hok.fresh hle)
  rcases q1 with ⟨hq, q⟩ | ⟨hq, q⟩
  · obtain ⟨its, rv, pl, _⟩ := I1.list hq
    exact call_enumerate_list pl.isList fun h' he hit _ hk => wpAny_pyIter_enum he ⟨s1.heap.objs.size + 1, [s1.heap.objs.size + 1, s1.heap.objs.size], _, _, H1, rfl, I1.kept (t' := s1.toks) hk, turn_enum a (s1.heap.objs.size + 1) s1.heap.objs.size, ⟨⟨.none, he⟩, hit, Nat.succ_ne_self _⟩, fp, q⟩
  · obtain ⟨its, rv, tp, _⟩ := I1.tuple hq
    exact call_enumT tp fun h' he hit hk => wpAny_pyIter_enum he ⟨s1.heap.objs.size + 1, [s1.heap.objs.size + 1, s1.heap.objs.size], _, _, H1, rfl, I1.kept (t' := s1.toks) hk, turn_enumT a (s1.heap.objs.size + 1) s1.heap.objs.size, ⟨⟨.none, he⟩, hit, Nat.succ_ne_self _⟩, fp, q⟩
end
section
variable {Γ : Ga} {K : PySem.W.Frag} {E : WX}
variable {a b tg : Expr} {fa fb : FE} {pos p tpos : Pos} {elts : List Expr} {kk : Nat}
variable {ρ : List Addr} {F : Hp}
/-- the items of what stands still -/
def itA (f : FE) : FI := fun env st => (f env st).bind fun d s => match d with
  | .tup ds => .ok ds s
  | .lst ds => .ok ds s
  | .scr ds => .ok ds s
  | .mtp ds => .ok ds s
  | _ => .no
theorem itA_bind (f : FE) (k : List D → Store → Res (List D)) (env : Env) (st : Store) : (itA f env st).bind k = (f env st).bind fun d s => match d with
  | .tup ds => k ds s
  | .lst ds => k ds s
  | .scr ds => k ds s
  | .mtp ds => k ds s
  | _ => .no := by
  unfold itA
  cases f env st with
  | ok d s => cases d <;> rfl
  | _ => rfl
theorem di_seq (h : DE Γ a fa) : DI Γ tg a (itA fa) := by
  obtain ⟨t, p, q⟩ := h.run
  refine ⟨iSeq Γ.K t, fun X m => ?_, fun B ρ F env st σ H R S h => q B ρ F env st σ H _ S (Out.bind h fun d s1 ρ1 F1 H1 v S1 l1 e1 r1 h1 => ?_)⟩
  · have h := pi_seq (tg := tg) (p X m)
    rw [m.K] at h
    exact h
  · split at h1
    · obtain ⟨a, vs, rfl, g1, g2⟩ := r1.tup
      exact ⟨a, rfl, .inr ⟨⟨vs, (sqU_mono S1.so.sub g1).t⟩, h1.ret S1 (iter_tup g1 g2)⟩⟩
    · have r2 := r1.rp rfl
      cases r2 with
      | lst g1 g2 => exact ⟨_, rfl, .inl ⟨⟨_, .inl (.inl (S1.so.sub _ _ g1))⟩, h1.ret S1 (iter_list (.inl (.inl g1)) g2)⟩⟩
    · have r2 := r1.rp rfl
      cases r2 with
      | scr g1 g2 => exact ⟨_, rfl, .inl ⟨⟨_, sqL_mono S1.so.sub g1⟩, h1.ret S1 (iter_list g1 g2)⟩⟩
    · have r2 := r1.rp rfl
      cases r2 with
      | mtp g1 g2 => exact ⟨_, rfl, .inr ⟨⟨_, (sqN_mono S1.so.sub g1).t⟩, h1.ret S1 (iter_tupT g1.t g2)⟩⟩
    · exact h1.elim
def itEn (f : FE) : FI := fun env st => (itA f env st).bind fun ds s => .ok (enumFrom 0 ds) s
theorem di_enum (h : DE Γ a fa) (hg : Γ.sc.names.lookup ("enumerate" : Str) = some .globalImplicit) (hm : Γ.mg "enumerate" = none) (hs : ∀ env : PySem.Env, starEach [a] env = [(false, eval a env)] := by intro _; rfl) : DI Γ (.Tuple elts kk tpos) (.Call (.Name "enumerate" p) [a] [] pos) (itEn fa) := by
  obtain ⟨t, pp, q⟩ := h.run
  refine ⟨iEnumA Γ.K (tCons t tNil), fun X m => ?_, fun B ρ F env st σ H R S h => ?_⟩
  · have h := pi_enumA (pos := pos) (p := p) (tpos := tpos) (elts := elts) (kk := kk) (show X.env.kindOf ("enumerate" : Str) = _ by unfold Env.kindOf; rw [m.sc]; exact hg) (by rw [m.mg]; exact hm) (pa_cons (pp X m) pa_nil (by rw [hs X.env]; rfl)) (hs X.env)
    rw [m.K] at h
    exact h
  · unfold itEn at h
    rw [itA_bind] at h
    refine q B ρ F env st σ H _ S (Out.bind h fun d s1 ρ1 F1 H1 v S1 l1 e1 r1 h1 => ?_)
    split at h1
    · obtain ⟨a, vs, rfl, g1, g2⟩ := r1.tup
      exact ⟨a, vs, rfl, .inr ⟨(sqU_mono S1.so.sub g1).t, h1.ret S1 (iter_enumT g1.t g2)⟩⟩
    · have r2 := r1.rp rfl
      cases r2 with
      | lst g1 g2 => exact ⟨_, _, rfl, .inl ⟨.inl (.inl (S1.so.sub _ _ g1)), h1.ret S1 (iter_enumL (.inl (.inl g1)) g2)⟩⟩
    · have r2 := r1.rp rfl
      cases r2 with
      | scr g1 g2 => exact ⟨_, _, rfl, .inl ⟨sqL_mono S1.so.sub g1, h1.ret S1 (iter_enumL g1 g2)⟩⟩
    · have r2 := r1.rp rfl
      cases r2 with
      | mtp g1 g2 => exact ⟨_, _, rfl, .inr ⟨(sqN_mono S1.so.sub g1).t, h1.ret S1 (iter_enumT g1.t g2)⟩⟩
    · exact h1.elim
/-- zip of two that stand still, both lists or both tuples -/
def zip2 : List D → List D → List D
  | a :: r, b :: t => .tup [a, b] :: zip2 r t
  | _, _ => []
theorem zip2_get : ∀ (xs ys : List D) (i : Nat) (x y : D), xs[i]? = some x → ys[i]? = some y → (zip2 xs ys)[i]? = some (.tup [x, y])
  | _ :: _, _ :: _, 0, x, y, h, h' => by simp at h h'; subst h h'; rfl
  | _ :: r, _ :: t, i + 1, x, y, h, h' => zip2_get r t i x y (by simpa using h) (by simpa using h')
  | [], _, _, _, _, h, _ => by simp at h
  | _ :: _, [], _, _, _, _, h => by simp at h
theorem zip2_length : ∀ (xs ys : List D), (zip2 xs ys).length = min xs.length ys.length
  | _ :: r, _ :: t => by simp [zip2, zip2_length r t]
  | [], _ => by simp [zip2]
  | _ :: _, [] => by simp [zip2]
def itZip (f g : FE) : FI := fun env st => (f env st).bind fun d s => (g env s).bind fun d' s' => match d, d' with
  | .tup xs, .tup ys => .ok (zip2 xs ys) s'
  | .lst xs, .lst ys => .ok (zip2 xs ys) s'
  | _, _ => .no
theorem walk_zipT {K : PySem.W.Frag} {a b : Addr} {xs ys : List V} {n : Nat} (hn : n = min xs.length ys.length) : Walk (RZ.ItzT K a b) n (fun H => SqT K H a xs ∧ SqT K H b ys) (YPair (fun i => xs[i]?) (fun i => ys[i]?)) := by
  subst hn
  refine ⟨fun i _ hi q => ?_, fun _ q => ⟨xs, ys, q.1, q.2, by omega⟩, fun i H v H' _ q y => ?_⟩
  · have h1 : i < xs.length := by omega
    have h2 : i < ys.length := by omega
    exact ⟨xs, ys, xs[i], ys[i], q.1, q.2, by simp [h1], by simp [h2]⟩
  · obtain ⟨T, x, z, h1, h2, h3, h4, h5⟩ := y
    exact ⟨T, x, z, h1, h2, h3, h4 xs q.1, h5 ys q.2⟩
theorem di_zip (h : DE Γ a fa) (h' : DE Γ b fb) (hg : Γ.sc.names.lookup ("zip" : Str) = some .globalImplicit) (hm : Γ.mg "zip" = none) (hs : ∀ env : PySem.Env, starEach [a, b] env = (false, eval a env) :: starEach [b] env := by intro _; rfl) (hs2 : ∀ env : PySem.Env, starEach [b] env = [(false, eval b env)] := by intro _; rfl) (hpl : ∀ env : PySem.Env, (backTo pos (starEach [b] env)).any (·.1) = false := by intro _; rfl) : DI Γ (.Tuple elts kk tpos) (.Call (.Name "zip" p) [a, b] [] pos) (itZip fa fb) := by
  obtain ⟨t, pp, q⟩ := h.run
  obtain ⟨u, pp', q'⟩ := h'.run
  refine ⟨RZ.iZipA Γ.K (tCons t (tCons u tNil)), fun X m => ?_, fun B ρ F env st σ H R S h => q B ρ F env st σ H _ S (Out.bind h fun d s1 ρ1 F1 H1 v S1 l1 e1 r1 h1 => q' B ρ1 F1 env s1 σ H1 _ S1 (Out.bind h1 fun d2 s2 ρ2 F2 H2 v2 S2 l2 e2 r2 h2 => ?_))⟩
  · have h := RZ.pi_zipA (pos := pos) (p := p) (tpos := tpos) (elts := elts) (kk := kk) (show X.env.kindOf ("zip" : Str) = _ by unfold Env.kindOf; rw [m.sc]; exact hg) (by rw [m.mg]; exact hm) (pa_cons (pp X m) (pa_cons (pp' X m) pa_nil (by rw [hs2 X.env]; rfl)) (hs X.env)) (hs X.env) (hpl X.env)
    rw [m.K] at h
    exact h
  · have r1' := r1.mono l2 e2
    have pairs : ∀ {vs us : List V} {xs ys : List D}, RpL Γ.K ρ2 F2 vs xs → RpL Γ.K ρ2 F2 us ys → ∀ (i : Nat) (H : Hp) (x : V) (H' : Hp), YPair (fun i => vs[i]?) (fun i => us[i]?) i H x H' → ∃ d, (zip2 xs ys)[i]? = some d ∧ ((H' = H ∧ Rp Γ.K ρ2 F2 x d) ∨ (∃ T ws es, x = .ref T ∧ H T = none ∧ H' = upd H T (.tup ws) ∧ d = .tup es ∧ RpL Γ.K ρ2 F2 ws es) ∨ ∃ T ws es, x = .ref T ∧ H T = some (.tup ws) ∧ H' = H ∧ d = .tup es ∧ RpL Γ.K ρ2 F2 ws es) := fun {vs us xs ys} r r' i H x H' y => by
      obtain ⟨T, x1, x2, h1, h2, h3, h4, h5⟩ := y
      obtain ⟨d1, g1, g2⟩ := r.get' h4
      obtain ⟨d2, g3, g4⟩ := r'.get' h5
      exact ⟨_, zip2_get _ _ _ _ _ g1 g3, .inr (.inl ⟨T, _, _, h1, h2, h3, rfl, .cons g2 (.cons g4 .nil)⟩)⟩
    split at h2
    · obtain ⟨a, vs, rfl, g1, g2⟩ := r1'.tup
      obtain ⟨b, us, rfl, g3, g4⟩ := r2.tup
      refine ⟨a, b, vs, us, rfl, .inr ⟨(sqU_mono S2.so.sub g1).t, (sqU_mono S2.so.sub g3).t, h2.ret S2 ⟨_, _, walk_zipT (by rw [zip2_length, g2.length, g4.length]), fun H e => ⟨(sqU_mono e g1).t, (sqU_mono e g3).t⟩, pairs g2 g4⟩⟩⟩
    · have q1 := r1'.rp rfl
      have q2 := r2.rp rfl
      cases q1 with
      | lst g1 g2 =>
        cases q2 with
        | lst g3 g4 => exact ⟨_, _, _, _, rfl, .inl ⟨.inl (.inl (S2.so.sub _ _ g1)), .inl (.inl (S2.so.sub _ _ g3)), h2.ret S2 ⟨_, _, walk_zip (by rw [zip2_length, g2.length, g4.length]), fun H e => ⟨.inl (.inl (e _ _ g1)), .inl (.inl (e _ _ g3))⟩, pairs g2 g4⟩⟩⟩
    · exact h2.elim

/-! ### a def that others call -/
structure Cal (P : Program) (w : World) (K : PySem.W.Frag) (mg : Str → Option Value) (base : Heap) (x : Str) (k n : Nat) (φ : Fn) : Prop where
  ex : ∃ f fd ps, FnOk P w K mg base (L2.CX P w) k f fd ps (spD K n φ) ∧ mg x = some (.ref f) ∧ PySem.W.keepIn K (.ref f) = true ∧ Binds K fd ps []
theorem dcall {e : Expr} {es : List Expr} {fs : FA} {x : Str} {k n : Nat} {φ : Fn} (G : Cal Γ.P Γ.w Γ.K Γ.mg Γ.base x k n φ) (hk : k ≤ Γ.k) (ha : DA Γ (e :: es) fs) (hg : Γ.sc.names.lookup x = some .globalImplicit := by rfl) (hdb : (x == ("__debug__" : Str)) = false := by decide)
    (he : ∀ env : PySem.Env, starEach (e :: es) env = (false, eval e env) :: starEach es env := by intro _; rfl) (hpl : ∀ env : PySem.Env, (backTo pos (starEach es env)).any (·.1) = false := by intro _; rfl) : DE Γ (.Call (.Name x p) (e :: es) [] pos) (app n φ fs) := by
  obtain ⟨f, fd, ps, F, hm, hkp, hb⟩ := G.ex
  exact de_call F hk hg hm hkp hb ha hdb he hpl
/-- where the def of a name stands -/
structure At (K : PySem.W.Frag) (mg : Str → Option Value) (x : Str) (sd : Stmt) : Prop where
  ex : ∃ f fd, Fun K x x sd f fd ∧ mg x = some (.ref f)
theorem At.cal {P : Program} {w : World} {mg : Str → Option Value} {base : Heap} {x : Str} {sd : Stmt} {N ps : List Str} {k : Nat} {body : FS} (A : At K mg x sd) (Sc : FnScope N ps (defScope sd)) (h : ∀ E, DSs ⟨P, w, K, mg, base, N, defScope sd, fun _ => true, k, E⟩ (defBody sd) body)
    (hb : ∀ (kV doc pm : Value) (an : Option Addr) (cdv ct : Value) (us : List Value), us.length = ps.length → bindArgs (PySem.W.fnOf x x (defArgs sd) (defBody sd) (defScope sd) .none kV doc pm an cdv ct) ⟨us, []⟩ = pure (ps.zip us)) : Cal P w K mg base x (k + 1) ps.length (runF N.length body) := by
  obtain ⟨f, fd, F, hm⟩ := A.ex
  exact ⟨f, fd, ps, df_of F Sc h, hm, F.kp, F.binds hb⟩
end
end DL
namespace DL
open PySem PySem.Spec PyProof.Rows L2
/-- names of what is built in, not bound by the module -/
structure Blt (mg : Str → Option Value) : Prop where
  int_ : mg "int" = none
  bool_ : mg "bool" = none
  tuple_ : mg "tuple" = none
  str_ : mg "str" = none
  list_ : mg "list" = none
  len_ : mg "len" = none
  range_ : mg "range" = none
  enumerate_ : mg "enumerate" = none
  zip_ : mg "zip" = none
  sum_ : mg "sum" = none
  all_ : mg "all" = none
  any_ : mg "any" = none
  isinstance_ : mg "isinstance" = none
  abs_ : mg "abs" = none
  max_ : mg "max" = none
  min_ : mg "min" = none
  sorted_ : mg "sorted" = none
  set_ : mg "set" = none
section
variable {Γ : Ga} {K : PySem.W.Frag} {E : WX}
variable {a b e : Expr} {es : List Expr} {fa fb : FE} {fs : FA} {pos p : Pos}
variable {B : Base} {ρ ρ' : List Addr} {F F' H H' : Hp} {env env' : Env} {st st' : Store} {σ σ' : L2.St} {v : V} {d : D}
/-- a built-in type as a value -/
theorem de_ty {x : Str} {n : String} (hg : Γ.sc.names.lookup x = some .globalImplicit) (hm : Γ.mg x = none) (hv : bootBuiltins x = some (.type n)) (hn : x ≠ "__name__" := by decide) (hd : (x == ("__debug__" : Str)) = false := by decide) : DE Γ (.Name x pos) (cst (.ty n)) :=
  ⟨_, fun X m => pe_bltn (v := .ty n) (show X.env.kindOf x = _ by unfold Env.kindOf; rw [m.sc]; exact hg) (by rw [m.mg]; exact hm) hv rfl hn hd, snd_c fun _ _ => .ty n⟩
theorem boot_tuple' : bootBuiltins "tuple" = some (.type "tuple") := by decide +kernel
/-- a module's int -/
theorem de_cint {x : Str} {i : Int} (hm : ∃ t, Γ.mg x = some (.int i t)) (hg : Γ.sc.names.lookup x = some .globalImplicit) (hd : (x == ("__debug__" : Str)) = false := by decide) : DE Γ (.Name x pos) (cst (.int i)) := by
  obtain ⟨t, hm⟩ := hm
  exact de_glob (v := .int i) hg hm ⟨t, rfl⟩ (fun _ _ => .int i) hd
/-- a module's tuple of ints -/
def IntTup (K : PySem.W.Frag) (a : Addr) (ns : List Int) : Prop := ∃ (o : Obj) (its : Array Value) (n : Nat), K.lookup a = some o ∧ o.cls = .type "tuple" ∧ o.dict = none ∧ o.data = .seq its n ∧ its.size ≤ sizeLine ∧ Vals (ns.map V.int) its.toList
theorem de_ctup {x : Str} {ns : List Int} (hm : ∃ a : Addr, Γ.mg x = some (.ref a) ∧ IntTup Γ.K a ns) (hg : Γ.sc.names.lookup x = some .globalImplicit) (hd : (x == ("__debug__" : Str)) = false := by decide) : DE Γ (.Name x pos) (cst (.mtp (ns.map .int))) := by
  obtain ⟨a, hm, ht⟩ := hm
  exact de_glob (v := .ref a) hg hm rfl (fun _ _ => .mtp (.inr ht) (RpL.of_ints ns)) hd
/-! ### new lists by calls and operators -/
abbrev OCN := Env → Store → List D → Res (List D)
def SndCN (K : PySem.W.Frag) (E : WX) (r : List V → Hp → VK → Prop) (o : OCN) : Prop := ∀ B ρ F env st σ H Q vs ds, Sim K B ρ F env st σ H → RpVL K ρ F env σ vs ds → OutN K E B ρ F env σ Q (o env st ds) → r vs H Q
structure DCN (Γ : Ga) (f : Value) (o : OCN) : Prop where
  run : ∃ r, (∀ X, Mt Γ X → CallR X f r) ∧ SndCN Γ.K Γ.E r o
def calN (o : OCN) (f : FA) : FN := fun env st => (f env st).bind fun ds s => o env s ds
theorem dn_callTy {x : Str} {T : String} {o : OCN} (hc : DCN Γ (.type T) o) (hg : Γ.sc.names.lookup x = some .globalImplicit) (hm : Γ.mg x = none) (hv : bootBuiltins x = some (.type T)) (ha : DA Γ (e :: es) fs) (hn : x ≠ "__name__" := by decide) (hdb : (x == ("__debug__" : Str)) = false := by decide)
    (he : ∀ env : PySem.Env, starEach (e :: es) env = (false, eval e env) :: starEach es env := by intro _; rfl) (hpl : ∀ env : PySem.Env, (backTo pos (starEach es env)).any (·.1) = false := by intro _; rfl) : DN Γ (.Call (.Name x p) (e :: es) [] pos) (calN o fs) := by
  obtain ⟨r, hr, so⟩ := hc.run
  obtain ⟨t, pa, sa⟩ := ha.run
  exact ⟨_, fun X m => pe_callTy (hr X m) (show X.env.kindOf x = _ by unfold Env.kindOf; rw [m.sc]; exact hg) (by rw [m.mg]; exact hm) hv (pa X m) hn hdb (he X.env) (hpl X.env), fun B ρ F env st σ H Q S q =>
    sa B ρ F env st σ H _ S (OutN.bind q fun d s1 ρ1 F1 H1 v S1 l1 e1 r1 h1 => so B ρ1 F1 env s1 σ H1 Q v d S1 r1 h1)⟩
theorem dn_callB {x : Str} {T : String} {o : OCN} (hc : DCN Γ (.builtin T) o) (hg : Γ.sc.names.lookup x = some .globalImplicit) (hm : Γ.mg x = none) (hv : bootBuiltins x = some (.builtin T)) (ha : DA Γ (e :: es) fs) (hn : x ≠ "__name__" := by decide) (hdb : (x == ("__debug__" : Str)) = false := by decide)
    (he : ∀ env : PySem.Env, starEach (e :: es) env = (false, eval e env) :: starEach es env := by intro _; rfl) (hpl : ∀ env : PySem.Env, (backTo pos (starEach es env)).any (·.1) = false := by intro _; rfl) : DN Γ (.Call (.Name x p) (e :: es) [] pos) (calN o fs) := by
  obtain ⟨r, hr, so⟩ := hc.run
  obtain ⟨t, pa, sa⟩ := ha.run
  exact ⟨_, fun X m => pe_callB (hr X m) (show X.env.kindOf x = _ by unfold Env.kindOf; rw [m.sc]; exact hg) (by rw [m.mg]; exact hm) hv (pa X m) hn hdb (he X.env) (hpl X.env), fun B ρ F env st σ H Q S q =>
    sa B ρ F env st σ H _ S (OutN.bind q fun d s1 ρ1 F1 H1 v S1 l1 e1 r1 h1 => so B ρ1 F1 env s1 σ H1 Q v d S1 r1 h1)⟩
def oList : OCN := fun env st ds => match ds with
  | [d] => match seqA env st d with
    | some xs => .ok xs st
    | none => .no
  | _ => .no
theorem dn_list : DCN Γ (.type "list") oList := ⟨fun xs H Q => ∃ p ys, xs = [.ref p] ∧ (SqL Γ.K H p ys ∨ SqT Γ.K H p ys) ∧ ∀ l, H l = none → Q (.ref l) (upd H l (.lst ys)), fun X m => by rw [← m.K]; exact call_list_of, fun B ρ F env st σ H Q vs ds S r h => by
  unfold oList at h
  split at h
  · obtain ⟨v, rfl, r1⟩ := r.one
    split at h
    · rename_i xs hx
      obtain ⟨a, vs, rfl, h1, r2⟩ := seqA_ok S r1 hx
      exact ⟨a, vs, rfl, h1, fun l hl => h.ret S r2 hl⟩
    · exact h.elim
  · exact h.elim⟩
abbrev O2N := Env → Store → D → D → Res (List D)
def binN (o : O2N) (fa fb : FE) : FN := fun env st => (fa env st).bind fun x s1 => (fb env s1).bind fun y s2 => o env s2 x y
def oCatN : O2N := fun env st x y => match seqL env st x, seqL env st y with
  | some xs, some ys => if xs.length + ys.length ≤ sizeLine then .ok (xs ++ ys) st else .no
  | _, _ => .no
def oRepN : O2N := fun env st x y => match seqL env st x, y with
  | some xs, .int k => if 0 ≤ k ∧ k < 2 ^ 63 ∧ xs.length * k.toNat ≤ sizeLine then .ok (repD k.toNat xs) st else .no
  | _, _ => .no
theorem dn_op {op : Operator} {r : R2} {o : O2N} (hr : ∀ X, Mt Γ X → OpR X (binaryOp op) r) (so : ∀ B ρ F env st σ H Q x y dx dy, Sim Γ.K B ρ F env st σ H → RpV Γ.K ρ F env σ x dx → RpV Γ.K ρ F env σ y dy → OutN Γ.K Γ.E B ρ F env σ Q (o env st dx dy) → r x y H Q) (ha : DE Γ a fa) (hb : DE Γ b fb) : DN Γ (.BinOp a op b pos) (binN o fa fb) := by
  obtain ⟨ta, pa, sa⟩ := ha.run
  obtain ⟨tb, pb, sb⟩ := hb.run
  exact ⟨_, fun X m => pe_op (hr X m) (pa X m) (pb X m), fun B ρ F env st σ H Q S h =>
    sa B ρ F env st σ H _ S (OutN.bind h fun d s1 ρ1 F1 H1 v S1 l1 e1 r1 h1 => sb B ρ1 F1 env s1 σ H1 _ S1 (OutN.bind h1 fun d2 s2 ρ2 F2 H2 v2 S2 l2 e2 r2 h2 => so B ρ2 F2 env s2 σ H2 Q v v2 d d2 S2 (r1.mono l2 e2) r2 h2))⟩
theorem dn_cat (ha : DE Γ a fa) (hb : DE Γ b fb) : DN Γ (.BinOp a .Add b pos) (binN oCatN fa fb) :=
  dn_op (r := rCat) (fun X m => op_cat) (fun B ρ F env st σ H Q x y dx dy S rx ry h => by
    unfold oCatN at h
    split at h
    · split at h
      · rename_i xs ys hx hy hlen
        obtain ⟨a, vs, rfl, h1, r1⟩ := seqL_ok S rx hx
        obtain ⟨b, us, rfl, h2, r2⟩ := seqL_ok S ry hy
        exact ⟨a, b, vs, us, rfl, rfl, h1, h2, by rw [r1.length, r2.length]; exact hlen, fun p hp => h.ret S (r1.append r2) hp⟩
      · exact h.elim
    · exact h.elim) ha hb
theorem dn_rep (ha : DE Γ a fa) (hb : DE Γ b fb) : DN Γ (.BinOp a .Mult b pos) (binN oRepN fa fb) :=
  dn_op (r := rRep) (fun X m => op_rep) (fun B ρ F env st σ H Q x y dx dy S rx ry h => by
    unfold oRepN at h
    split at h
    · split at h
      · rename_i xs k hx hc
        obtain ⟨a, vs, rfl, h1, r1⟩ := seqL_ok S rx hx
        cases ry.int
        exact ⟨a, k, vs, rfl, rfl, h1, by omega, hc.2.1, by rw [r1.length]; exact hc.2.2, fun p hp => h.ret S (r1.rep _) hp⟩
      · exact h.elim
    · exact h.elim) ha hb
def oAbs : OC := fun _ st ds => match ds with
  | [.int i] => .ok (.int (if i < 0 then -i else i)) st
  | _ => .no
theorem dc_abs : DC Γ (.builtin "abs") oAbs := ⟨_, fun X m => call_abs, fun B ρ F env st σ H Q vs ds S r h => by
  unfold oAbs at h
  split at h
  · obtain ⟨v, rfl, r1⟩ := r.one
    cases r1.int
    exact ⟨_, rfl, h.ret S (.inl (.int _))⟩
  · exact h.elim⟩

/-! ### a, b, .. = e1, e2, .. -/
inductive Itm where
  | val (d : D) | new (ds : List D) | newD (kvs : List (List Int × D))
abbrev FM := Env → Store → Res (List Itm)
abbrev Pend := List (Addr × HO)
/-- lists that wait to be stored -/
def Waits (K : PySem.W.Frag) (B : Base) (ρ : List Addr) (F H : Hp) (env : Env) (σ : L2.St) (z : Pend) : Prop := ∀ q ∈ z, AloneO K B ρ F H env σ q.1 q.2
/-- the values: a new list is alone -/
inductive ItmsOk (K : PySem.W.Frag) (B : Base) (ρ : List Addr) (F H : Hp) (env : Env) (σ : L2.St) : List Addr → List V → List Itm → Prop
  | nil {z : List Addr} : ItmsOk K B ρ F H env σ z [] []
  | val {z : List Addr} {v : V} {d : D} {vs : List V} {is : List Itm} (h : Rp K ρ F v d) (t : ItmsOk K B ρ F H env σ z vs is) : ItmsOk K B ρ F H env σ z (v :: vs) (.val d :: is)
  | new {z : List Addr} {a : Addr} {us : List V} {ds : List D} {vs : List V} {is : List Itm} (h : Alone K B ρ F H env σ a us) (r : RpL K ρ F us ds) (n : a ∉ z) (t : ItmsOk K B ρ F H env σ (a :: z) vs is) : ItmsOk K B ρ F H env σ z (.ref a :: vs) (.new ds :: is)
  | newD {z : List Addr} {a : Addr} {kv : List (List Key × V)} {kvs : List (List Int × D)} {vs : List V} {is : List Itm} (h : AloneO K B ρ F H env σ a (.dT kv)) (hk : kv.map (·.1) = kvs.map (fun p => p.1.map Sum.inl)) (r : RpL K ρ F (kv.map (·.2)) (kvs.map (·.2))) (n : a ∉ z) (t : ItmsOk K B ρ F H env σ (a :: z) vs is) : ItmsOk K B ρ F H env σ z (.ref a :: vs) (.newD kvs :: is)
def OutM (K : PySem.W.Frag) (E : WX) (B : Base) (ρ : List Addr) (F : Hp) (env : Env) (σ : L2.St) (z : Pend) (Q : List V → Hp → Prop) : Res (List Itm) → Prop
  | .ok is st' => ∀ ρ' F' H' vs, Sim K B ρ' F' env st' σ H' → Lg ρ ρ' → Same F F' → Waits K B ρ' F' H' env σ z → ItmsOk K B ρ' F' H' env σ (z.map (·.1)) vs is → Q vs H'
  | .err c fs st' => ∀ ρ' F' H' od, Sim K B ρ' F' env st' σ H' → Lg ρ ρ' → Same F F' → ExD K ρ' F' H' od fs → E (.ref c) od σ H'
  | .no => False
theorem OutM.on {z : Pend} {Q : List V → Hp → Prop} {r : Res (List Itm)} (h : OutM K E B ρ F env σ z Q r) (l : Lg ρ ρ') (e : Same F F') : OutM K E B ρ' F' env σ z Q r := by
  cases r with
  | no => exact h
  | err c fs s => exact fun ρ2 F2 H2 od S2 l2 e2 => h ρ2 F2 H2 od S2 (l.trans l2) (e.trans e2)
  | ok d2 s2 => exact fun ρ2 F2 H2 v2 S2 l2 e2 => h ρ2 F2 H2 v2 S2 (l.trans l2) (e.trans e2)
def SndM (K : PySem.W.Frag) (E : WX) (t : TA) (f : FM) : Prop := ∀ B ρ F env st σ H z Q, Sim K B ρ F env st σ H → Waits K B ρ F H env σ z → OutM K E B ρ F env σ z Q (f env st) → t σ H Q
structure DM (Γ : Ga) (es : List Expr) (f : FM) : Prop where
  run : ∃ t, (∀ X, Mt Γ X → PA X es t) ∧ SndM Γ.K Γ.E t f
def nilM : FM := fun _ st => .ok [] st
def consMV (f : FE) (g : FM) : FM := fun env st => (f env st).bind fun d s => if d.isSl = true then .no else (g env s).bind fun is s2 => .ok (.val d :: is) s2
def consMN (f : FN) (g : FM) : FM := fun env st => (f env st).bind fun ds s => (g env s).bind fun is s2 => .ok (.new ds :: is) s2
theorem dm_nil : DM Γ [] nilM := ⟨_, fun X m => pa_nil, fun B ρ F env st σ H z Q S W q => q ρ F H [] S (.refl _) (.refl _) W .nil⟩
theorem Waits.stay {z : Pend} (W : Waits K B ρ F H env σ z) (T : Sim K (reb ρ F H env σ) ρ' F' env st' σ H') : Waits K B ρ' F' H' env σ z := fun q hq => (W q hq).stay (fun k s h _ => ⟨h, rfl⟩) T
theorem ItmsOk.mono {z : List Addr} {vs : List V} {is : List Itm} (h : ItmsOk K B ρ F H env σ z vs is) {z' : List Addr} (hz : ∀ a ∈ z', a ∈ z) : ItmsOk K B ρ F H env σ z' vs is := by
  induction h generalizing z' with
  | nil => exact .nil
  | val h _ ih => exact .val h (ih hz)
  | new h r n _ ih => exact .new h r (fun hm => n (hz _ hm)) (ih fun a ha => by
      rcases List.mem_cons.mp ha with e | e
      · exact e ▸ List.mem_cons_self
      · exact List.mem_cons_of_mem _ (hz a e))
  | newD h hk r n _ ih => exact .newD h hk r (fun hm => n (hz _ hm)) (ih fun a ha => by
      rcases List.mem_cons.mp ha with e | e
      · exact e ▸ List.mem_cons_self
      · exact List.mem_cons_of_mem _ (hz a e))
theorem dm_val {g : FM} (h : DE Γ a fa) (h' : DM Γ es g) (hs : ∀ env : PySem.Env, starEach (a :: es) env = (false, eval a env) :: starEach es env := by intro _; rfl) : DM Γ (a :: es) (consMV fa g) := by
  obtain ⟨t, p, s⟩ := h.run
  obtain ⟨u, q, r⟩ := h'.run
  refine ⟨_, fun X m => pa_cons (p X m) (q X m) (hs X.env), fun B ρ F env st σ H z Q S W hq => s (reb ρ F H env σ) ρ F env st σ H _ S.rebase ?_⟩
  unfold consMV at hq
  cases hr : fa env st with
  | no => rw [hr] at hq; exact hq
  | err c fs s => rw [hr] at hq; exact fun ρ1 F1 H1 od T l e x => hq ρ1 F1 H1 od (S.trans T) l e x
  | ok d s1 =>
    rw [hr] at hq
    intro ρ1 F1 H1 v T l1 e1 r1
    simp only [Res.bind] at hq
    split at hq
    · exact hq.elim
    · rename_i hsl
      refine r B ρ1 F1 env s1 σ H1 z _ (S.trans T) (W.stay T) ?_
      cases hg : g env s1 with
      | no => rw [hg] at hq; exact hq
      | err c fs s => rw [hg] at hq; exact (OutM.on (r := .err c fs s) hq l1 e1)
      | ok is s2 =>
        rw [hg] at hq
        exact fun ρ2 F2 H2 vs S2 l2 e2 W2 i2 => hq ρ2 F2 H2 _ S2 (l1.trans l2) (e1.trans e2) W2 (.val ((r1.rp (by simpa using hsl)).mono l2 e2) i2)
theorem dm_new {fn : FN} {g : FM} (h : DN Γ a fn) (h' : DM Γ es g) (hs : ∀ env : PySem.Env, starEach (a :: es) env = (false, eval a env) :: starEach es env := by intro _; rfl) : DM Γ (a :: es) (consMN fn g) := by
  obtain ⟨t, p, s⟩ := h.run
  obtain ⟨u, q, r⟩ := h'.run
  refine ⟨_, fun X m => pa_cons (p X m) (q X m) (hs X.env), fun B ρ F env st σ H z Q S W hq => s (reb ρ F H env σ) ρ F env st σ H _ S.rebase ?_⟩
  unfold consMN at hq
  cases hr : fn env st with
  | no => rw [hr] at hq; exact hq
  | err c fs s => rw [hr] at hq; exact fun ρ1 F1 H1 od T l e x => hq ρ1 F1 H1 od (S.trans T) l e x
  | ok ds s1 =>
    rw [hr] at hq
    intro ρ1 F1 H1 a us T l1 e1 g1 g2 g3 g4 g5 r1
    have hn : H a = none := g5.resolve_right g4
    have A : Alone Γ.K B ρ1 F1 H1 env σ a us := ⟨g1, g2, g3, g4, S.back hn, fun _ => HO.noConfusion⟩
    have W1 : Waits Γ.K B ρ1 F1 H1 env σ ((a, .lst us) :: z) := fun q hq => by
      rcases List.mem_cons.mp hq with e | hq
      · exact e ▸ A
      · exact (W.stay T) q hq
    have na : a ∉ z.map (·.1) := fun hm => by
      obtain ⟨q, hq, e⟩ := List.mem_map.mp hm
      have := (W q hq).at_
      rw [e, hn] at this
      cases this
    refine r B ρ1 F1 env s1 σ H1 ((a, .lst us) :: z) _ (S.trans T) W1 ?_
    simp only [Res.bind] at hq
    cases hg : g env s1 with
    | no => rw [hg] at hq; exact hq
    | err c fs s => rw [hg] at hq; exact fun ρ2 F2 H2 od S2 l2 e2 => hq ρ2 F2 H2 od S2 (l1.trans l2) (e1.trans e2)
    | ok is s2 =>
      rw [hg] at hq
      exact fun ρ2 F2 H2 vs S2 l2 e2 W2 i2 => hq ρ2 F2 H2 _ S2 (l1.trans l2) (e1.trans e2) (fun q hq => W2 q (List.mem_cons_of_mem _ hq)) (.new (W2 (a, .lst us) List.mem_cons_self) (r1.mono l2 e2) na i2)
/-- the stores, from the left -/
def setM : Env → List Nat → List Itm → Option Env
  | env, [], [] => some env
  | env, i :: ix, .val d :: is => setM (env.set i (.fz d)) ix is
  | env, i :: ix, .new ds :: is => setM (env.set i (.ol ds)) ix is
  | env, i :: ix, .newD kvs :: is => setM (env.set i (.od kvs)) ix is
  | _, _, _ => none
def setV : L2.St → List Nat → List V → L2.St
  | σ, i :: ix, v :: vs => setV (σ.set i (some v)) ix vs
  | σ, _, _ => σ
def parS (ix : List Nat) (f : FM) : FS := fun env st => (f env st).toS env fun is s => match setM env ix is with
  | some e => .nx e s
  | none => .no
theorem own_set {i : Nat} {s : Slot} {x : Option V} {b : Addr} (h : OwnS (env.set i s) (σ.set i x) b) : OwnS env σ b ∨ (s.owned = true ∧ x = some (.ref b)) := by
  obtain ⟨j, t, h1, h2, h3⟩ := h
  by_cases e : j = i
  · subst e
    rw [List.getElem?_set] at h1
    simp only [if_true] at h1
    split at h1
    · cases h1
      unfold OwnAt at h3
      rw [List.getElem?_set] at h3
      simp only [if_true] at h3
      split at h3
      · exact .inr ⟨h2, by simpa using h3⟩
      · cases h3
    · cases h1
  · rw [List.getElem?_set_ne (Ne.symm e)] at h1
    unfold OwnAt at h3
    rw [List.getElem?_set_ne (Ne.symm e)] at h3
    exact .inl ⟨j, t, h1, h2, h3⟩
theorem ItmsOk.off {z : List Addr} {vs : List V} {is : List Itm} {i : Nat} {s : Slot} {x : Option V} (h : ItmsOk K B ρ F H env σ z vs is) (hx : ∀ b, s.owned = true → x = some (.ref b) → b ∈ z) : ItmsOk K B ρ F H (env.set i s) (σ.set i x) z vs is := by
  induction h with
  | nil => exact .nil
  | val h _ ih => exact .val h (ih hx)
  | new h r n _ ih => exact .new ⟨h.at_, h.nF, h.nρ, fun ho => (own_set ho).elim h.nO fun q => n (hx _ q.1 q.2), h.nB, h.nT⟩ r n (ih fun b h1 h2 => List.mem_cons_of_mem _ (hx b h1 h2))
  | newD h hk r n _ ih => exact .newD ⟨h.at_, h.nF, h.nρ, fun ho => (own_set ho).elim h.nO fun q => n (hx _ q.1 q.2), h.nB, h.nT⟩ hk r n (ih fun b h1 h2 => List.mem_cons_of_mem _ (hx b h1 h2))
theorem setM_ok : ∀ {ix : List Nat} {is : List Itm} {vs : List V} {z : List Addr} {env env' : Env} {σ : L2.St}, Sim K B ρ F env st σ H → ItmsOk K B ρ F H env σ z vs is → setM env ix is = some env' → Sim K B ρ F env' st (setV σ ix vs) H
  | [], _, _, _, _, _, _, S, .nil, e => by cases e; exact S
  | i :: ix, _, _, z, _, _, _, S, .val (v := v) (d := d) (vs := vs) (is := is) h t, e => by
    have t' := t.off (i := i) (s := .fz d) (x := some v) fun b h1 _ => by cases h1
    exact setM_ok (ix := ix) (is := is) (vs := vs) (z := z) (S.set h) t' e
  | i :: ix, _, _, z, _, _, _, S, .new (a := a) (us := us) (ds := ds) (vs := vs) (is := is) h r n t, e => by
    have t' := t.off (i := i) (s := .ol ds) (x := some (.ref a)) fun b _ h2 => by
      have : a = b := by simpa using h2
      exact this ▸ List.mem_cons_self
    exact setM_ok (ix := ix) (is := is) (vs := vs) (z := a :: z) (S.setOwn (s := .ol ds) (i := i) h.nO h.nB (fun hlt => ⟨a, us, by unfold OwnAt; rw [List.getElem?_set_self hlt], h.nF, h.nρ, h.at_, r⟩) rfl) t' e
  | i :: ix, _, _, z, _, _, _, S, .newD (a := a) (kv := kv) (kvs := kvs) (vs := vs) (is := is) h hk r n t, e => by
    have t' := t.off (i := i) (s := .od kvs) (x := some (.ref a)) fun b _ h2 => by
      have : a = b := by simpa using h2
      exact this ▸ List.mem_cons_self
    exact setM_ok (ix := ix) (is := is) (vs := vs) (z := a :: z) (S.setOwn (s := .od kvs) (i := i) h.nO h.nB (fun hlt => ⟨a, kv, by unfold OwnAt; rw [List.getElem?_set_self hlt], h.nF, h.nρ, h.at_, hk, r⟩) rfl) t' e
  | [], _, _, _, _, _, _, _, .val _ _, e => by cases e
  | [], _, _, _, _, _, _, _, .new _ _ _ _, e => by cases e
  | [], _, _, _, _, _, _, _, .newD _ _ _ _ _, e => by cases e
  | _ :: _, _, _, _, _, _, _, _, .nil, e => by cases e
theorem ItmsOk.length {z : List Addr} {vs : List V} {is : List Itm} (h : ItmsOk K B ρ F H env σ z vs is) : vs.length = is.length := by
  induction h with
  | nil => rfl
  | val _ _ ih => simp [ih]
  | new _ _ _ _ ih => simp [ih]
  | newD _ _ _ _ _ ih => simp [ih]
theorem setM_len : ∀ {ix : List Nat} {is : List Itm} {env env' : Env}, setM env ix is = some env' → ix.length = is.length
  | [], [], _, _, _ => rfl
  | i :: ix, .val d :: is, _, _, e => by simp [setM_len (ix := ix) e]
  | i :: ix, .new d :: is, _, _, e => by simp [setM_len (ix := ix) e]
  | i :: ix, .newD d :: is, _, _, e => by simp [setM_len (ix := ix) e]
  | [], _ :: _, _, _, e => by cases e
  | _ :: _, [], _, _, e => by cases e
theorem snd_par {t : TA} {f : FM} {ix : List Nat} {Qf : Ends → L2.St → List V → Hp → Prop} (h : SndM K E t f) (hu : ∀ D σ vs H1, vs.length = ix.length → D.nx (setV σ ix vs) H1 → (∀ p, H1 p = none → D.nx (setV σ ix vs) (upd H1 p (.tup vs))) → Qf D σ vs H1) : SndS K E (fun D σ H => t σ H (Qf D σ)) (parS ix f) := fun B ρ F env st σ H D S q => h B ρ F env st σ H [] _ S (fun _ hq => by cases hq) (by
  unfold parS at q
  cases hr : f env st with
  | no => rw [hr] at q; exact q
  | err c fs s => rw [hr] at q; exact fun ρ1 F1 H1 od S1 l e x => q ρ1 F1 σ H1 od S1 l e x
  | ok is s1 =>
    rw [hr] at q
    intro ρ1 F1 H1 vs S1 l1 e1 _ i1
    simp only [Res.toS] at q
    split at q
    · rename_i env' he
      have hl := setM_len he
      have hv := i1.length
      exact hu D σ vs H1 (by omega) (q ρ1 F1 _ H1 (setM_ok S1 i1 he) l1 e1) fun p hp => q ρ1 F1 _ _ ((setM_ok S1 i1 he).more (same_new hp)) l1 e1
    · exact q.elim)
/-- the slots are plain locals, unlike -/
def locs (N : List Str) (sc : Scope) : List Str → List Nat → Bool
  | x :: xs, i :: ix => decide (N[i]? = some x) && decide (sc.names.lookup x = some .local) && !ix.contains i && locs N sc xs ix
  | [], [] => true
  | _, _ => false
variable {px py pz pt pos : Pos} {kt k2 : Nat} {pt2 : Pos} {c : Expr} {f : FM}
theorem ds_par2 {x y : Str} (ix : List Nat) (h : DM Γ [a, b] f) {i j : Nat} (hix : ix = [i, j] := by rfl) (hl : locs Γ.N Γ.sc [x, y] ix = true := by decide +kernel) (hN : Γ.N.Nodup := by assumption)
    (hw : ∀ env : PySem.Env, env.scope = Γ.sc → swappedStores [.Tuple [.Name x px, .Name y py] kt pt] (.Tuple [a, b] k2 pt2) env = pure (some [x, y]) := by intro env h; cases env; cases h; rfl) (hs : ∀ env : PySem.Env, swapsWithSole [.Tuple [.Name x px, .Name y py] kt pt] (.Tuple [a, b] k2 pt2) pos.line env = pure false := by intro _; rfl) :
    DS Γ (.Assign [.Tuple [.Name x px, .Name y py] kt pt] (.Tuple [a, b] k2 pt2) pos) (parS ix f) := by
  obtain ⟨t, p, q⟩ := h.run
  subst hix
  simp only [locs, Bool.and_eq_true, decide_eq_true_eq, Bool.not_eq_true', List.contains_cons, List.contains_nil, Bool.or_false, beq_eq_false_iff_ne, ne_eq] at hl
  obtain ⟨⟨⟨h1, h2⟩, h3⟩, ⟨⟨h4, h5⟩, _⟩, _⟩ := hl
  refine ⟨_, fun X m => ps_par (i := i) (j := j) m.calm (by rw [m.N]; exact hN) (by rw [m.N]; exact h1) (by rw [m.N]; exact h4) h3 (by rw [m.sc]; exact h2) (by rw [m.sc]; exact h5) (p X m) (hw X.env m.sc) (hs X.env), snd_par q fun D σ vs H1 hl hh _ => ?_⟩
  match vs, hl, hh with
  | [v, w], _, hh => exact ⟨v, w, rfl, hh⟩
theorem ds_par3 {x y z : Str} (ix : List Nat) (h : DM Γ [a, b, c] f) {i j l : Nat} (hix : ix = [i, j, l] := by rfl) (hl : locs Γ.N Γ.sc [x, y, z] ix = true := by decide +kernel) (hN : Γ.N.Nodup := by assumption)
    (hw : ∀ env : PySem.Env, env.scope = Γ.sc → swappedStores [.Tuple [.Name x px, .Name y py, .Name z pz] kt pt] (.Tuple [a, b, c] k2 pt2) env = pure (some [x, y, z]) := by intro env h; cases env; cases h; rfl) (hs : ∀ env : PySem.Env, swapsWithSole [.Tuple [.Name x px, .Name y py, .Name z pz] kt pt] (.Tuple [a, b, c] k2 pt2) pos.line env = pure false := by intro _; rfl) :
    DS Γ (.Assign [.Tuple [.Name x px, .Name y py, .Name z pz] kt pt] (.Tuple [a, b, c] k2 pt2) pos) (parS ix f) := by
  obtain ⟨t, p, q⟩ := h.run
  subst hix
  simp only [locs, Bool.and_eq_true, decide_eq_true_eq, Bool.not_eq_true', List.contains_cons, List.contains_nil, Bool.or_false, Bool.or_eq_false_iff, beq_eq_false_iff_ne, ne_eq] at hl
  obtain ⟨⟨⟨h1, h2⟩, h3, h3'⟩, ⟨⟨h4, h5⟩, h6⟩, ⟨⟨h7, h8⟩, _⟩, _⟩ := hl
  refine ⟨_, fun X m => ps_par3 (i := i) (j := j) (l := l) m.calm (by rw [m.N]; exact hN) (by rw [m.N]; exact h1) (by rw [m.N]; exact h4) (by rw [m.N]; exact h7) h3 h3' h6 (by rw [m.sc]; exact h2) (by rw [m.sc]; exact h5) (by rw [m.sc]; exact h8) (p X m) (hw X.env m.sc) (hs X.env), snd_par q fun D σ vs H1 hl hh _ => ?_⟩
  match vs, hl, hh with
  | [u, v, w], _, hh => exact ⟨u, v, w, rfl, hh⟩
/-- names as targets, in order -/
def gNs : List Nat → TGs
  | [] => gNil
  | i :: r => gCons (gName i) (gNs r)
theorem gNs_ok : ∀ {ix : List Nat} {vs : List V} {σ : L2.St} {H : Hp} {Q : L2.St → Hp → Prop}, vs.length = ix.length → Q (setV σ ix vs) H → gNs ix vs σ H Q
  | [], [], _, _, _, _, q => ⟨rfl, q⟩
  | i :: ix, v :: vs, _, _, _, h, q => ⟨v, vs, rfl, gNs_ok (ix := ix) (by simpa using h) q⟩
structure DNm (Γ : Ga) (es : List Expr) (ix : List Nat) : Prop where
  run : ∀ X, Mt Γ X → PGs X es (gNs ix)
theorem dnm_nil : DNm Γ [] [] := ⟨fun X m => pgs_nil⟩
theorem dnm_cons (i : Nat) {x : Str} {r : List Nat} (h : DNm Γ es r) (hi : Γ.N[i]? = some x := by rfl) (hN : Γ.N.Nodup := by assumption) (hx : Loc Γ.sc x := by first | exact .inl rfl | exact .inr rfl) (hf : Γ.fn x = true ∨ Γ.sc.names.lookup x = some .local := by first | exact .inl rfl | exact .inr rfl)
    (hs : ∀ env : PySem.Env, (assignEach (.Name x pos :: es) env).map (·.2) = assign (.Name x pos) env :: (assignEach es env).map (·.2) := by intro _; rfl) : DNm Γ (.Name x pos :: es) (i :: r) :=
  ⟨fun X m => pgs_cons (pg_name (by rw [m.N]; exact hN) (by rw [m.N]; exact hi) (by rw [m.sc]; exact hx) (hf.elim (fun h => .inl (m.fn x h)) (fun h => .inr (by rw [m.sc]; exact h)))) (h.run X m) (hs X.env)⟩
theorem ds_parN {tgs es : List Expr} {ix : List Nat} (h : DM Γ es f) (g : DNm Γ tgs ix) (hsm : ix.length ≤ 1000 := by decide) (hn : ∀ env : PySem.Env, (assignEach tgs env).length = ix.length := by intro _; rfl) (hst : ∀ env : PySem.Env, (assignEach tgs env).findIdx? (·.1) = none := by intro _; rfl)
    (hw : ∀ env : PySem.Env, env.scope = Γ.sc → swappedStores [.Tuple tgs kt pt] (.Tuple es k2 pt2) env = pure none := by intro env h; cases env; cases h; rfl) (hs : ∀ env : PySem.Env, swapsWithSole [.Tuple tgs kt pt] (.Tuple es k2 pt2) pos.line env = pure false := by intro _; rfl) (h1 : ∀ env : PySem.Env, (assignEach [.Tuple tgs kt pt] env).map (·.2) = [assign (.Tuple tgs kt pt) env] := by intro _; rfl) :
    DS Γ (.Assign [.Tuple tgs kt pt] (.Tuple es k2 pt2) pos) (parS ix f) := by
  obtain ⟨t, p, q⟩ := h.run
  refine ⟨tAsg (tTup t) (gTup Γ.K ix.length (gNs ix)), fun X m => ?_, snd_par q fun D σ vs H1 hl hh hp => ⟨?_, fun p np => ⟨p, vs, rfl, .inl (.inl upd_same), hl, gNs_ok hl (hp p np)⟩⟩⟩
  · have h := ps_asg (pos := pos) (pe_tup (pos := pt2) (x1 := k2) (p X m)) (pg_tup (pos := pt) (k := kt) m.calm (g.run X m) (hn X.env) (hst X.env)) (hs X.env) (hw X.env m.sc) (h1 X.env)
    rw [m.K] at h
    exact h
  · rw [hl]
    exact Nat.le_trans hsm (by decide)
end
end DL
namespace DL
open PySem PySem.Spec PyProof.Rows L2
/-- where the classes of the package stand -/
structure Cl where
  Board : Addr
  Hand : Addr
  WheelError : Addr
  BadMarks : Addr
  BadCarries : Addr
  BadLevers : Addr
  BadStanding : Addr
  BadLever : Addr
  BadTimes : Addr
  BadBack : Addr
  BadWheels : Addr
  BadYear : Addr
  BadDay : Addr
  BadSeen : Addr
  BadRow : Addr
  NotComparable : Addr
  TooMany : Addr
  Full : Addr
  InvalidText : Addr
section
variable {Γ : Ga} {K : PySem.W.Frag} {E : WX}
variable {a b e o : Expr} {es : List Expr} {fa fb fo : FE} {fs : FA} {pos pos' p : Pos}
variable {B : Base} {ρ ρ' : List Addr} {F F' H H' : Hp} {env env' : Env} {st st' : Store} {σ σ' : L2.St} {v : V} {d : D}
/-! ### o.f = e of an instance in the store -/
def putFD (f : Str) (d : D) : List (Str × D) → List (Str × D)
  | [] => [(f, d)]
  | (g, x) :: r => if g = f then (g, d) :: r else (g, x) :: putFD f d r
theorem RpF.put {f : Str} (h : Rp K ρ F v d) : ∀ {fv : List (Str × V)} {fs : List (Str × D)}, RpF K ρ F fv fs → RpF K ρ F (putF f v fv) (putFD f d fs)
  | _, _, .nil => .cons h .nil
  | _, _, .cons (n := n) r t => by
    unfold putF putFD
    by_cases e : n = f
    · rw [if_pos e, if_pos e]; exact .cons h t
    · rw [if_neg e, if_neg e]; exact .cons r (RpF.put h t)
theorem RpF.length : ∀ {fv : List (Str × V)} {fs : List (Str × D)}, RpF K ρ F fv fs → fv.length = fs.length
  | _, _, .nil => rfl
  | _, _, .cons _ t => by simp [t.length]
theorem Sim.stIns {i : Nat} {a C dx : Addr} {fs gs : List (Str × D)} {fv gv : List (Str × V)} (S : Sim K B ρ F env st σ H) (hi : st[i]? = some (.ins C fs)) (ho : ρ[i]? = some a) (ha : H a = some (.ins C dx fv)) (hd : H dx = some (.own a)) (r : RpF K ρ F gv gs) : Sim K B ρ F env (st.set i (.ins C gs)) σ (upd H a (.ins C dx gv)) := by
  obtain ⟨hF, dx', fv', ha', hd', hn', _⟩ := S.so.at_ _ _ _ hi ho
  rw [ha] at ha'
  cases ha'
  have hlt : i < st.length := (List.getElem?_eq_some_iff.mp hi).1
  have hm : a ∈ ρ := List.mem_of_getElem? ho
  have nda : dx ≠ a := fun z => by rw [z, ha] at hd; cases hd
  refine ⟨⟨fun b u hu => ?_, S.so.nd, by simp [S.so.len], fun j c b h1 h2 => ?_⟩, S.len, fun j t hj => ?_, S.apart, S.ownO, S.lg, S.fs, S.fnew, S.rnew, fun x o hx q1 q2 => ?_, S.ins.trans fun x C' d' f' hx => ?_⟩
  · have n : b ≠ a := fun z => by rw [z, hF] at hu; cases hu
    rw [upd_ne n]; exact S.so.sub b u hu
  · by_cases e : j = i
    · subst e
      rw [List.getElem?_set_self hlt] at h1
      cases h1
      rw [ho] at h2
      cases h2
      exact ⟨hF, dx, gv, upd_same, by rw [upd_ne nda]; exact hd, hn', r⟩
    · rw [List.getElem?_set_ne (Ne.symm e)] at h1
      obtain ⟨q1, q2⟩ := S.so.at_ j c b h1 h2
      have n : b ≠ a := fun z => e (nd_ix S.so.nd (z ▸ h2) ho)
      refine ⟨q1, ?_⟩
      cases c with
      | lst xs => obtain ⟨ws, r1, r2⟩ := q2; exact ⟨ws, by rw [upd_ne n]; exact r1, r2⟩
      | ins C fs =>
        obtain ⟨dx, fv, r1, r2, r3, r4⟩ := q2
        have n2 : dx ≠ a := fun z => by rw [z, ha] at r2; cases r2
        exact ⟨dx, fv, by rw [upd_ne n]; exact r1, by rw [upd_ne n2]; exact r2, r3, r4⟩
  · refine (S.sl j t hj).mono (.refl _) (.refl _) fun x hx ht => ?_
    obtain ⟨y, g1, g2, g3, o, g4⟩ := (S.sl j t hj).own ht
    cases hx.inj g1
    have nx : x ≠ a := fun z => g3 (z ▸ hm)
    exact ⟨g2, g3, fun o h => by rw [upd_ne nx]; exact h⟩
  · have n : x ≠ a := fun z => by
      rcases S.rnew a hm with w | w | w
      · exact q1 (z ▸ w)
      · rw [z, w] at hx; cases hx
      · exact q2 (z ▸ w)
    rw [upd_ne n]; exact S.keep x o hx q1 q2
  · by_cases z : x = a
    · subst z
      rw [ha] at hx
      cases hx
      exact ⟨gv, upd_same⟩
    · exact ⟨f', by rw [upd_ne z]; exact hx⟩
def fldS (C : Addr) (f : Str) (fo fv : FE) : FS := fun env st => (fv env st).toS env fun d s1 => if d.isSl = true then .no else (fo env s1).toS env fun o s2 => match o with
  | .own i => match s2[i]? with
    | some (.ins C' fs) => if C' = C ∧ fs.length < 1000 then .nx env (s2.set i (.ins C (putFD f d fs))) else .no
    | _ => .no
  | _ => .no
theorem ds_fld {C : Addr} {f : Str} (ho : DE Γ o fo) (hv : DE Γ a fa) (c : Cls Γ.K C) (n : NoAttr Γ.K C f) (hs : ∀ env : PySem.Env, swapsWith a (some (.Attribute o f pos')) pos.line env = pure false := by intro _; rfl) : DS Γ (.Assign [.Attribute o f pos'] a pos) (fldS C f fo fa) := by
  obtain ⟨t, p, q⟩ := ho.run
  obtain ⟨u, p1, q1⟩ := hv.run
  refine ⟨sFld Γ.K t u f, fun X m => ?_, fun B ρ F env st σ H T S h => q1 B ρ F env st σ H _ S (OutS.bind h fun d s1 ρ1 F1 H1 v S1 l1 e1 r1 h1 => ?_)⟩
  · have h := ps_fld (pos := pos) (pos' := pos') (f := f) (p X m) (p1 X m) (hs X.env)
    rw [m.K] at h
    exact h
  · split at h1
    · exact h1.elim
    · rename_i hsl
      refine q B ρ1 F1 env s1 σ H1 _ S1 (OutS.bind h1 fun od s2 ρ2 F2 H2 vo S2 l2 e2 r2 h2 => ?_)
      split at h2
      · split at h2
        · split at h2
          · rename_i i _ C' fs hi hc
            obtain ⟨rfl, hlen⟩ := hc
            have r3 := r2.rp rfl
            cases r3 with
            | own hr =>
              obtain ⟨_, dx, fv, k1, k2, k3, k4⟩ := S2.so.at_ _ _ _ hi hr
              exact ⟨_, _, dx, fv, rfl, k1, c, n, by rw [k4.length]; exact hlen, h2 ρ2 F2 σ _ (S2.stIns hi hr k1 k2 (RpF.put ((r1.rp (by simpa using hsl)).mono l2 e2) k4)) (.refl _) (.refl _)⟩
          · exact h2.elim
        · exact h2.elim
      · exact h2.elim
/-! ### classes that are made -/
structure CalI (P : Program) (w : World) (K : PySem.W.Frag) (mg : Str → Option Value) (base : Heap) (C : Addr) (x : Str) (k n : Nat) (φ : Fn) : Prop where
  ex : ∃ f fd ps, FnOk P w K mg base (L2.CX P w) k f fd ps (spD K (n + 1) φ) ∧ Mk K C f ∧ mg x = some (.ref C) ∧ Binds K fd ps []
theorem dmk {C : Addr} {x : Str} {k n : Nat} {φ : Fn} (G : CalI Γ.P Γ.w Γ.K Γ.mg Γ.base C x k n φ) (hk : k + 1 ≤ Γ.k) (ha : DA Γ (e :: es) fs) (hg : Γ.sc.names.lookup x = some .globalImplicit := by rfl) (hdb : (x == ("__debug__" : Str)) = false := by decide)
    (he : ∀ env : PySem.Env, starEach (e :: es) env = (false, eval e env) :: starEach es env := by intro _; rfl) (hpl : ∀ env : PySem.Env, (backTo pos (starEach es env)).any (·.1) = false := by intro _; rfl) : DE Γ (.Call (.Name x p) (e :: es) [] pos) (mkF C n φ fs) := by
  obtain ⟨f, fd, ps, F, M, hm, hb⟩ := G.ex
  exact de_mk M F hk hg hm hb ha hdb he hpl
/-- where a class and its __init__ stand -/
structure AtI (K : PySem.W.Frag) (mg : Str → Option Value) (C : Addr) (x qual : Str) (sd : Stmt) : Prop where
  ex : ∃ f fd, Fun K "__init__" qual sd f fd ∧ Mk K C f ∧ mg x = some (.ref C)
theorem AtI.cal {P : Program} {w : World} {mg : Str → Option Value} {base : Heap} {C : Addr} {x qual : Str} {sd : Stmt} {N ps : List Str} {k n : Nat} {body : FS} (A : AtI K mg C x qual sd) (Sc : FnScope N ps (defScope sd)) (h : ∀ E, DSs ⟨P, w, K, mg, base, N, defScope sd, fun _ => true, k, E⟩ (defBody sd) body) (hn : ps.length = n + 1)
    (hb : ∀ (kV doc pm : Value) (an : Option Addr) (cdv ct : Value) (us : List Value), us.length = ps.length → bindArgs (PySem.W.fnOf "__init__" qual (defArgs sd) (defBody sd) (defScope sd) .none kV doc pm an cdv ct) ⟨us, []⟩ = pure (ps.zip us)) : CalI P w K mg base C x (k + 1) n (runF N.length body) := by
  obtain ⟨f, fd, F, M, hm⟩ := A.ex
  have F1 := df_of (P := P) (w := w) (base := base) (mg := mg) F Sc h
  rw [hn] at F1
  exact ⟨f, fd, ps, F1, M, hm, F.binds hb⟩
end
end DL
namespace DL
open PySem PySem.Spec PyProof.Rows L2
section
variable {Γ : Ga} {K : PySem.W.Frag} {E : WX}
variable {a b e o : Expr} {es : List Expr} {fa fb fo : FE} {fs : FA} {pos pos' p : Pos}
variable {B : Base} {ρ ρ' : List Addr} {F F' H H' : Hp} {env env' : Env} {st st' : Store} {σ σ' : L2.St} {v : V} {d : D}
/-! ### lists that go into the store -/
theorem lg_one {x : Addr} : Lg ρ (ρ ++ [x]) := lg_app
theorem Sim.addCell {x : Addr} {us : List V} {ds : List D} (S : Sim K B ρ F env st σ H) (A : Alone K B ρ F H env σ x us) (r : RpL K ρ F us ds) : Sim K B (ρ ++ [x]) F env (st ++ [.lst ds]) σ H where
  so := by
    refine ⟨S.so.sub, ?_, by simp [S.so.len], fun i c y h1 h2 => ?_⟩
    · rw [List.nodup_append]
      refine ⟨S.so.nd, by simp, fun y h1 z h2 => ?_⟩
      have : z = x := by simpa using h2
      subst this
      exact fun w => A.nρ (w ▸ h1)
    · by_cases hi : i < st.length
      · rw [List.getElem?_append_left hi] at h1
        rw [List.getElem?_append_left (by rw [← S.so.len]; exact hi)] at h2
        obtain ⟨q1, q2⟩ := S.so.at_ i c y h1 h2
        exact ⟨q1, q2.mono lg_app⟩
      · rw [List.getElem?_append_right (by omega)] at h1
        rw [List.getElem?_append_right (by rw [← S.so.len]; omega)] at h2
        rw [S.so.len] at h1
        cases hj : i - ρ.length with
        | zero =>
          rw [hj] at h1 h2
          simp only [List.getElem?_cons_zero, Option.some.injEq] at h1 h2
          subst h1 h2
          exact ⟨A.nF, us, A.at_, r.mono lg_app (.refl _)⟩
        | succ j => rw [hj] at h1; simp at h1
  len := S.len
  sl := fun i s hi => (S.sl i s hi).mono lg_app (.refl _) fun y hy hs => by
    obtain ⟨z, h1, h2, h3, h4⟩ := (S.sl i s hi).own hs
    cases hy.inj h1
    refine ⟨h2, fun hm => ?_, fun o ho => ho⟩
    rcases List.mem_append.mp hm with hm | hm
    · exact h3 hm
    · have : y = x := by simpa using hm
      exact A.nO ⟨i, s, hi, hs, this ▸ hy⟩
  apart := S.apart
  ownO := S.ownO
  lg := S.lg.trans lg_app
  fs := S.fs
  fnew := S.fnew
  rnew := fun y h => by
    rcases List.mem_append.mp h with h | h
    · exact S.rnew y h
    · have : y = x := by simpa using h
      exact .inr (this ▸ A.nB)
  keep := S.keep
  ins := S.ins
/-- the items, new lists as cells of the store -/
def cellsOf : List Itm → Nat → List D × List Cell
  | [], _ => ([], [])
  | .val d :: r, n => let (x, y) := cellsOf r n; (d :: x, y)
  | .new ds :: r, n => let (x, y) := cellsOf r (n + 1); (.own n :: x, .lst ds :: y)
  | .newD _ :: r, n => cellsOf r n
def noD : List Itm → Bool
  | [] => true
  | .newD _ :: _ => false
  | _ :: r => noD r
theorem AloneO.add {x y : Addr} {o : HO} (A : AloneO K B ρ F H env σ x o) (n : x ≠ y) : AloneO K B (ρ ++ [y]) F H env σ x o :=
  ⟨A.at_, A.nF, fun h => by
    rcases List.mem_append.mp h with h | h
    · exact A.nρ h
    · exact n (by simpa using h), A.nO, A.nB, A.nT⟩
theorem ItmsOk.add {z : List Addr} {vs : List V} {is : List Itm} {y : Addr} (h : ItmsOk K B ρ F H env σ z vs is) (hy : y ∈ z) : ItmsOk K B (ρ ++ [y]) F H env σ z vs is := by
  induction h with
  | nil => exact .nil
  | val h _ ih => exact .val (h.mono lg_app (.refl _)) (ih hy)
  | new h r n _ ih => exact .new (h.add fun e => n (e ▸ hy)) (r.mono lg_app (.refl _)) n (ih (List.mem_cons_of_mem _ hy))
  | newD h hk r n _ ih => exact .newD (h.add fun e => n (e ▸ hy)) hk (r.mono lg_app (.refl _)) n (ih (List.mem_cons_of_mem _ hy))
theorem cells_ok : ∀ {is : List Itm} {vs : List V} {z : List Addr} {ρ : List Addr} {st : Store}, Sim K B ρ F env st σ H → ItmsOk K B ρ F H env σ z vs is → noD is = true → ∃ τ, Sim K B (ρ ++ τ) F env (st ++ (cellsOf is st.length).2) σ H ∧ RpL K (ρ ++ τ) F vs (cellsOf is st.length).1
  | _, _, _, ρ, st, S, .nil, _ => ⟨[], by simpa [cellsOf] using S, .nil⟩
  | _, _, _, ρ, st, S, .val h t, hD => by
    obtain ⟨τ, S1, r1⟩ := cells_ok S t (by simpa [noD] using hD)
    exact ⟨τ, S1, .cons (h.mono lg_app (.refl _)) r1⟩
  | _, _, _, ρ, st, S, .newD h hk r n t, hD => by simp [noD] at hD
  | _, _, _, ρ, st, S, .new (a := x) (us := us) (ds := ds) h r n t, hD => by
    have S0 := S.addCell h r
    obtain ⟨τ, S1, r1⟩ := cells_ok S0 (t.add List.mem_cons_self) (by simpa [noD] using hD)
    have hl : (st ++ [Cell.lst ds]).length = st.length + 1 := by simp
    rw [hl] at S1 r1
    refine ⟨x :: τ, ?_, ?_⟩
    · have e1 : ρ ++ x :: τ = (ρ ++ [x]) ++ τ := by simp
      rw [e1]
      simpa [cellsOf] using S1
    · have e1 : ρ ++ x :: τ = (ρ ++ [x]) ++ τ := by simp
      rw [e1]
      refine .cons (.own ?_) r1
      rw [List.getElem?_append_left (by rw [List.length_append, S.so.len]; simp), S.so.len, List.getElem?_append_right (Nat.le_refl _)]
      simp
/-- return [e, ..]: the list, and new lists in it, go into the store -/
def retOwn (f : FM) : FS := fun env st => (f env st).toS env fun is s => if is.length ≤ 1000 ∧ noD is = true then .rt (.own (s.length + (cellsOf is s.length).2.length)) (s ++ (cellsOf is s.length).2 ++ [.lst (cellsOf is s.length).1]) else .no
theorem ds_retOwn {f : FM} (h : DM Γ es f) : DS Γ (.Return (some (.List es pos')) pos) (retOwn f) := by
  obtain ⟨t, p, q⟩ := h.run
  refine ⟨_, fun X m => ps_ret (pe_lst (p X m)), fun B ρ F env st σ H T S hq => q B ρ F env st σ H [] _ S (fun _ hm => by cases hm) ?_⟩
  unfold retOwn at hq
  cases hr : f env st with
  | no => rw [hr] at hq; exact hq
  | err c fs s => rw [hr] at hq; exact fun ρ1 F1 H1 od S1 l e x => hq ρ1 F1 σ H1 od S1 l e x
  | ok is s1 =>
    rw [hr] at hq
    intro ρ1 F1 H1 vs S1 l1 e1 _ i1
    simp only [Res.toS] at hq
    split at hq
    · rename_i hlen
      refine ⟨by rw [i1.length]; exact Nat.le_trans hlen.1 (by decide), fun x hx => ?_⟩
      obtain ⟨τ, S2, r2⟩ := cells_ok S1 i1 hlen.2
      have S3 := S2.more (same_new (o := .lst vs) hx)
      have S4 := S3.addCell (x := x) ⟨upd_same, S2.noF hx, S2.noρ hx, S2.noOwn hx, S2.back hx, fun _ => HO.noConfusion⟩ r2
      refine hq _ F1 env σ _ (.ref x) S4 (l1.trans (lg_app.trans lg_app)) e1 (.own ?_)
      have hl : (ρ1 ++ τ).length = s1.length + (cellsOf is s1.length).2.length := by rw [← S2.so.len, List.length_append]
      rw [List.getElem?_append_right (by rw [hl]; exact Nat.le_refl _), hl]
      simp
    · exact hq.elim
/-! ### a def that calls itself -/
theorem Cal.no {P : Program} {w : World} {mg : Str → Option Value} {base : Heap} {x : Str} {sd : Stmt} {k n : Nat} (A : At K mg x sd) {ps : List Str}
    (hb : ∀ (kV doc pm : Value) (an : Option Addr) (cdv ct : Value) (us : List Value), us.length = ps.length → bindArgs (PySem.W.fnOf x x (defArgs sd) (defBody sd) (defScope sd) .none kV doc pm an cdv ct) ⟨us, []⟩ = pure (ps.zip us)) : Cal P w K mg base x k n (fun _ _ => .no) := by
  obtain ⟨f, fd, Fu, hm⟩ := A.ex
  refine ⟨f, fd, ps, ⟨fun vs H Q E h => ?_, fun A outer s H args us vs Q E hr h0 hb' hv h => ?_⟩, hm, Fu.kp, Fu.binds hb⟩
  · obtain ⟨_, ρ, F, st, ds, _, _, h⟩ := h; exact h.elim
  · obtain ⟨_, ρ, F, st, ds, _, _, h⟩ := h; exact h.elim
end
end DL
namespace DL
open PySem PySem.Spec PyProof.Rows L2
section
variable {Γ : Ga} {K : PySem.W.Frag} {E : WX}
variable {a b e o : Expr} {es : List Expr} {fa fb fo : FE} {fs : FA} {pos pos' p : Pos}
variable {B : Base} {ρ ρ' : List Addr} {F F' H H' : Hp} {env env' : Env} {st st' : Store} {σ σ' : L2.St} {v : V} {d : D}
/-! ### x = o.pop() -/
theorem RpL.dropLast {vs : List V} {ds : List D} (r : RpL K ρ F vs ds) : RpL K ρ F vs.dropLast ds.dropLast := by
  rw [List.dropLast_eq_take, List.dropLast_eq_take, r.length]
  exact r.take _
def popS (i : Nat) (fo : FE) : FS := fun env st => (fo env st).toS env fun o s => match (seqL env s o).bind fun xs => xs[xs.length - 1]? with
  | some d => match mutL (fun xs => some xs.dropLast) o env s with
    | .nx e s2 => .nx (e.set i (.fz d)) s2
    | _ => .no
  | none => .no
theorem ds_pop (i : Nat) {x : Str} {pos' : Pos} {apos cpos : Pos} (h : DE Γ o fo) (hi : Γ.N[i]? = some x := by rfl) (hN : Γ.N.Nodup := by assumption) (hx : Loc Γ.sc x := by first | exact .inl rfl | exact .inr rfl) (hf : Γ.fn x = true ∨ Γ.sc.names.lookup x = some .local := by first | exact .inl rfl | exact .inr rfl)
    (hbase : ∀ env : PySem.Env, attributeBase o "pop" env (eval o env) = eval o env := by intro _; rfl) (hline : (apos.endLine == cpos.line) = true := by rfl)
    (hs : ∀ env : PySem.Env, env.scope = Γ.sc → swapsWith (.Call (.Attribute o "pop" apos) [] [] cpos) (some (.Name x pos')) pos.line env = pure false := by intro _ _; rfl) : DS Γ (.Assign [.Name x pos'] (.Call (.Attribute o "pop" apos) [] [] cpos) pos) (popS i fo) := by
  obtain ⟨t, p, q⟩ := h.run
  refine ⟨_, fun X m => ps_set (te := tBM0 Γ.K "list" rPop t) (i := i) (by rw [m.N]; exact hN) (by rw [m.N]; exact hi) (by rw [m.sc]; exact hx) ?_ (hs X.env m.sc) (hf.elim (fun h => .inl (m.fn x h)) (fun h => .inr (by rw [m.sc]; exact h))), fun B ρ F env st σ H D S h => q B ρ F env st σ H _ S (OutS.bind h fun od s1 ρ1 F1 H1 v S1 l1 e1 r1 h1 => ?_)⟩
  · have h := pe_bm0 (apos := apos) (cpos := cpos) PySem.F.plainAttrs_list PySem.F.slot_list_pop PySem.F.type_list_pop mt_pop (p X m) (hbase X.env) hline
    rw [m.K] at h
    exact h
  · split at h1
    · rename_i d hd
      obtain ⟨xs0, hx0, hy0⟩ := Option.bind_eq_some_iff.mp hd
      obtain ⟨a0, vs0, rfl, g0, g1⟩ := seqL_ok S1 r1 hx0
      obtain ⟨y, hy, ry⟩ := g1.get hy0
      have hm : OutG Γ.K Γ.E B ρ1 F1 (fun σ' H' => D.nx (σ'.set i (some y)) H') (mutL (fun xs => some xs.dropLast) od env s1) := by
        cases hr : mutL (fun xs => some xs.dropLast) od env s1 with
        | nx e s2 =>
          rw [hr] at h1
          exact fun ρ2 F2 σ2 H2 S2 l2 e2 => h1 ρ2 F2 _ H2 (S2.set (ry.mono l2 e2)) l2 e2
        | _ => rw [hr] at h1; exact h1.elim
      obtain ⟨a, vs, xs, ys, ea, k1, k2, k3, k4⟩ := mutL_ok S1 r1 hm
      cases ea
      cases k3
      rw [g0] at k1
      cases k1
      refine ⟨.inl ⟨rfl, vs0, .inl (.inl g0)⟩, a0, vs0, y, rfl, rfl, g0, by rw [g1.length]; simpa [g1.length] using hy, ?_⟩
      exact k4 _ k2.dropLast
    · exact h1.elim
end
end DL
namespace DL
open PySem PySem.Spec PyProof.Rows L2
/-! ### the end: from a law's pure reading to what its head asks -/
/-- what is asked of a law: true, at every script -/
def lawSp (K : PySem.W.Frag) : Sp := fun vs H Q E => ∃ (a : Addr) (ns : List Int), vs = [.ref a] ∧ ns.length ≤ 63 ∧ (∀ z ∈ ns, Builtin.Int.intBits z ≤ 1048576) ∧ SqL K H a (ns.map V.int) ∧ ∀ H', Q (.bl true) H'
def scrOf (ns : List Int) : D := .scr (ns.map .int)
/-- the pure reading of a law -/
def LawTrue (φ : Fn) : Prop := ∀ ns : List Int, ns.length ≤ 63 → (∀ z ∈ ns, Builtin.Int.intBits z ≤ 1048576) → ∃ st, φ [scrOf ns] [] = .ok (.bl true) st
theorem law_imp {K : PySem.W.Frag} {φ : Fn} (h : LawTrue φ) : ∀ vs H Q E, lawSp K vs H Q E → spD K 1 φ vs H Q E := by
  rintro vs H Q E ⟨a, ns, rfl, hl, hb, hS, q⟩
  obtain ⟨st, hst⟩ := h ns hl hb
  refine ⟨rfl, [], H, [], [scrOf ns], ⟨fun _ _ h => h, List.nodup_nil, rfl, fun i c a h => by simp at h⟩, .cons (.scr hS ?_) .nil, ?_⟩
  · clear hst hS hb hl
    induction ns with
    | nil => exact .nil
    | cons n r ih => exact .cons (.int n) ih
  · rw [hst]
    intro ρ' F' H' v _ r
    cases r
    exact q H'
theorem law_fn {P : Program} {w : World} {K : PySem.W.Frag} {mg : Str → Option Value} {fa : Addr} {x : Str} {sd : Stmt} {N : List Str} {k : Nat} {body : FS} (hfa : mg "law" = some (.ref fa)) (T : At K mg "law" sd) (Sc : FnScope N [x] (defScope sd))
    (hb : ∀ (kV doc pm : Value) (an : Option Addr) (cdv ct : Value) (us : List Value), us.length = [x].length → bindArgs (PySem.W.fnOf "law" "law" (defArgs sd) (defBody sd) (defScope sd) .none kV doc pm an cdv ct) ⟨us, []⟩ = pure ([x].zip us))
    (h : ∀ base E, DSs ⟨P, w, K, mg, base, N, defScope sd, fun _ => true, k, E⟩ (defBody sd) body) (ht : LawTrue (runF N.length body)) :
    ∃ fd : FuncData, (∀ (s : Shared) (v : Value), BindsTo s fd ⟨[v], []⟩ [(x, v)]) ∧ ∀ base : Heap, K.In base → base.Ns mainGlobals mg → FnOk P w K mg base (L2.CX P w) (k + 1) fa fd [x] (lawSp K) := by
  obtain ⟨f, fd, F, hm⟩ := T.ex
  cases hfa.symm.trans hm
  refine ⟨fd, fun s v => ?_, fun base _ _ => (df_of (P := P) (w := w) (base := base) (mg := mg) F Sc (h base)).imp (law_imp ht)⟩
  obtain ⟨oc, od, kV, doc, pm, an, cdv, ct, osl, rfl, lk, hcd⟩ := F.ex
  exact .of_eq (hb kV doc pm an cdv ct [v] rfl)
theorem walk {l : PySem.W.OpenLaw} {k : Nat} {q : Program} {loose : List Str} {XP : (Str → Option Value) → Heap → Prop} {YP : World → Heap → Prop} {d : DefRec} {K : Params → PySem.W.Frag} {x : Str} (hn : l.most = some 63) (hdf : d.params.defaults = []) (hr : Room k callerA)
    (hY : ∀ (w : World) (h : Heap), YP w h → (K w.params).In h)
    (F : ∀ (w : World) (mg : Str → Option Value) (fa : Addr) (h : Heap), (K w.params).In h → h.Ns mainGlobals mg → mg d.name = some (.ref fa) →
      ∃ fd : FuncData, (∀ (s : Shared) (u : Value), BindsTo s fd ⟨[u], []⟩ [(x, u)]) ∧ ∀ base : Heap, (K w.params).In base → base.Ns mainGlobals mg → FnOk l.prog w (K w.params) mg base (L2.CX l.prog w) k fa fd [x] (lawSp (K w.params))) :
    PySem.W.WalkO q loose XP YP l.row.toRowW d [] (fun f vs => PySem.call f vs) :=
  L2.walk_ofB (n := 63) (k := k) (x := x) (CX := fun w => L2.CX l.prog w) (sp := fun w => lawSp (K w.params)) hn (by decide) hdf hr hY F (fun _ _ a ns hl hb _ hS => ⟨a, ns, rfl, hl, hb, hS, fun _ => rfl⟩) fun _ _ _ _ _ h => by
    obtain ⟨_, _, _, _, _, _, _, _, _, _, _, _, h⟩ := h
    exact h
end DL
namespace DL
open PySem PySem.Spec PyProof.Rows L2
/-! ### <, <=, >, >= of ints and of tuples of ints -/
section
variable {Γ : Ga} {K : PySem.W.Frag} {E : WX}
def lexI (c : Int → Int → Bool) (z : Nat → Nat → Bool) (ns ms : List Int) : Bool :=
  Ob.lexAt (fun j => decide (ns.getD j 0 = ms.getD j 0)) (fun j => c (ns.getD j 0) (ms.getD j 0)) (z ns.length ms.length) 0 (min ns.length ms.length)
def rLexT (K : PySem.W.Frag) (c : Int → Int → Bool) (z : Nat → Nat → Bool) : R2 := fun x y H Q => ∃ (a b : Addr) (ns ms : List Int), x = .ref a ∧ y = .ref b ∧ SqT K H a (ns.map V.int) ∧ SqT K H b (ms.map V.int) ∧ Q (.bl (lexI c z ns ms)) H
theorem op_lexT {X : Cx} {op : CmpOp} {c : Int → Int → Bool} {z : Nat → Nat → Bool} (hu : X.A.units < cLine) (ho : ∀ x y : Value, compareOp op x y = richCompare op x y)
    (rule : ∀ {A : Around} {s : Shared} {l b : Addr} {items items2 : Array Value} {e r : Nat → Bool}, s.heap.IsTuple l items → s.heap.IsTuple b items2 → A.units < cLine →
      (∀ j (h1 : j < items.size) (h2 : j < items2.size), SeqAt.EqAt A.in1 s items[j] items2[j] (e j)) → (∀ j (h1 : j < items.size) (h2 : j < items2.size), e j = false → Ob.RcOp op A.in1 s items[j] items2[j] (r j)) →
      Ob.RcOp op A s (.ref l) (.ref b) (Ob.lexAt e r (z items.size items2.size) 0 (min items.size items2.size)))
    (ri : ∀ {A : Around} {s : Shared} (a b : Int) (t u : Tok), Ob.RcOp op A s (.int a t) (.int b u) (c a b)) : OpR X (compareOp op) (rLexT X.K c z) := by
  intro pins s σ H x y v u Q I rx ry h
  obtain ⟨a, b, ns, ms, rfl, rfl, ha, hb, q⟩ := h
  cases rx
  cases ry
  obtain ⟨its, r1, p1, _⟩ := I.tuple ha
  obtain ⟨its2, r2, p2, _⟩ := I.tuple hb
  have i1 : IntsAre its ns := Vals.ints r1
  have i2 : IntsAre its2 ms := Vals.ints r2
  have e1 : its.toArray.size = ns.length := by rw [List.size_toArray]; exact i1.length
  have e2 : its2.toArray.size = ms.length := by rw [List.size_toArray]; exact i2.length
  have at1 : ∀ j (h1 : j < its.toArray.size), ∃ t, its.toArray[j] = .int (ns.getD j 0) t := fun j h1 => PyProof.Rows.IntsAre.int_at i1 _ _ (by simp at h1; simp [h1])
  have at2 : ∀ j (h1 : j < its2.toArray.size), ∃ t, its2.toArray[j] = .int (ms.getD j 0) t := fun j h1 => PyProof.Rows.IntsAre.int_at i2 _ _ (by simp at h1; simp [h1])
  have R := rule (A := X.A) (s := s) (e := fun j => decide (ns.getD j 0 = ms.getD j 0)) (r := fun j => c (ns.getD j 0) (ms.getD j 0)) p1 p2 hu (fun j h1 h2 => by
    obtain ⟨t, et⟩ := at1 j h1
    obtain ⟨t', et'⟩ := at2 j h2
    rw [et, et']
    have z : (ns.getD j 0 == ms.getD j 0) = decide (ns.getD j 0 = ms.getD j 0) := by
      by_cases q : ns.getD j 0 = ms.getD j 0
      · rw [decide_eq_true q]; exact beq_iff_eq.mpr q
      · rw [decide_eq_false q]; exact beq_eq_false_iff_ne.mpr q
    rw [← z]
    exact SeqAt.EqAt.int_int _ _ _ _) (fun j h1 h2 _ => by
    obtain ⟨t, et⟩ := at1 j h1
    obtain ⟨t', et'⟩ := at2 j h2
    rw [et, et']
    exact ri _ _ _ _)
  rw [e1, e2] at R
  rw [ho]
  exact R X.prog X.w X.xe (EP X pins σ Q) ⟨.bl _, H, I, rfl, q⟩
def oCmpA (c : Int → Int → Bool) (z : Nat → Nat → Bool) : O2 := fun _ st x y => match x, y with
  | .int i, .int j => .ok (.bl (c i j)) st
  | .tup xs, .tup ys => match intsD xs, intsD ys with
    | some ns, some ms => .ok (.bl (lexI c z ns ms)) st
    | _, _ => .no
  | _, _ => .no
theorem snd_cmpA {c : Int → Int → Bool} {z : Nat → Nat → Bool} : SndO K E (fun x y H Q => (rI0 fun i j => .bl (c i j)) x y H Q ∨ rLexT K c z x y H Q) (oCmpA c z) := fun B ρ F env st σ H Q x y dx dy S rx ry h => by
  unfold oCmpA at h
  split at h
  · rename_i i j
    cases rx.int
    cases ry.int
    exact .inl ⟨i, j, rfl, rfl, h.ret S (.inl (.bl _))⟩
  · rename_i xs ys
    split at h
    · rename_i ns ms hn hm
      have r1 := rx.rp rfl
      have r2 := ry.rp rfl
      cases r1 with
      | tup h1 q1 =>
        cases r2 with
        | tup h2 q2 =>
          cases intsD_ok hn q1
          cases intsD_ok hm q2
          exact .inr ⟨_, _, ns, ms, rfl, rfl, (sqU_mono S.so.sub h1).t, (sqU_mono S.so.sub h2).t, h.ret S (.inl (.bl _))⟩
    · exact h.elim
  · exact h.elim
abbrev oLtA : O2 := oCmpA (fun i j => decide (i < j)) (fun i j => decide (i < j))
abbrev oLeA : O2 := oCmpA (fun i j => decide (i ≤ j)) (fun i j => decide (i ≤ j))
abbrev oGtA : O2 := oCmpA (fun i j => decide (j < i)) (fun i j => decide (i > j))
abbrev oGeA : O2 := oCmpA (fun i j => decide (j ≤ i)) (fun i j => decide (i ≥ j))
theorem room_lt {k : Nat} {A : Around} (h : Room k A) : A.units < cLine := Nat.lt_of_succ_lt (hu_of h)
theorem OpR.or {X : Cx} {f : Value → Value → Sem Value} {r r' : R2} (h : OpR X f r) (h' : OpR X f r') : OpR X f (fun x y H Q => r x y H Q ∨ r' x y H Q) := fun pins s σ H x y v u Q I rx ry q => q.elim (h pins s σ H x y v u Q I rx ry) (h' pins s σ H x y v u Q I rx ry)
theorem do_ltA : DO Γ (compareOp .Lt) oLtA := ⟨_, fun X m => by rw [← m.K]; exact OpR.or op_lt (op_lexT (room_lt m.room) (fun _ _ => rfl) (fun a b c d e => Ob.RcOp.tuples_lt a b c d e) fun a b t u => Ob.RcOp.lt_int a b t u), snd_cmpA⟩
theorem do_leA : DO Γ (compareOp .LtE) oLeA := ⟨_, fun X m => by rw [← m.K]; exact OpR.or op_le (op_lexT (room_lt m.room) (fun _ _ => rfl) (fun a b c d e => Ob.RcOp.tuples_le a b c d e) fun a b t u => Ob.RcOp.le_int a b t u), snd_cmpA⟩
theorem do_gtA : DO Γ (compareOp .Gt) oGtA := ⟨_, fun X m => by rw [← m.K]; exact OpR.or op_gt (op_lexT (room_lt m.room) (fun _ _ => rfl) (fun a b c d e => Ob.RcOp.tuples_gt a b c d e) fun a b t u => Ob.RcOp.gt_int a b t u), snd_cmpA⟩
theorem do_geA : DO Γ (compareOp .GtE) oGeA := ⟨_, fun X m => by rw [← m.K]; exact OpR.or op_ge (op_lexT (room_lt m.room) (fun _ _ => rfl) (fun a b c d e => Ob.RcOp.tuples_ge a b c d e) fun a b t u => Ob.RcOp.ge_int a b t u), snd_cmpA⟩
end
end DL
namespace DL
open PySem PySem.Spec PyProof.Rows L2
/-! ### sorted(l) of tuples of ints, the first of them empty -/
/-- before, as texts are -/
def lexL : List Int → List Int → Bool
  | _, [] => false
  | [], _ :: _ => true
  | x :: xs, y :: ys => if x = y then lexL xs ys else decide (x < y)
theorem lexL_swo : SrtO.Swo lexL := by
  refine ⟨fun x => ?_, fun x => ?_⟩
  · induction x with
    | nil => intro y _; cases y <;> rfl
    | cons a r ih =>
      intro y h
      cases y with
      | nil => cases h
      | cons b q =>
        unfold lexL at h ⊢
        by_cases e : a = b
        · subst e; rw [if_pos rfl] at h ⊢; exact ih q h
        · rw [if_neg e] at h
          rw [if_neg (fun z => e z.symm)]
          have := of_decide_eq_true h
          exact decide_eq_false (by omega)
  · induction x with
    | nil =>
      intro y z h1 h2
      cases z with
      | nil => rfl
      | cons b q => rfl
    | cons a r ih =>
      intro y z h1 h2
      cases z with
      | nil => exact absurd (show lexL [] (a :: r) = true from rfl) (by
          intro h3
          cases y with
          | nil => rw [show lexL [] (a :: r) = true from rfl] at h1; cases h1
          | cons c p => rw [show lexL [] (c :: p) = true from rfl] at h2; cases h2)
      | cons b q =>
        cases y with
        | nil => rw [show lexL [] (a :: r) = true from rfl] at h1; cases h1
        | cons c p =>
          unfold lexL at h1 h2 ⊢
          by_cases e1 : c = a
          · subst e1
            rw [if_pos rfl] at h1
            by_cases e2 : b = c
            · subst e2
              rw [if_pos rfl] at h2 ⊢
              exact ih p q h1 h2
            · rw [if_neg e2] at h2 ⊢
              exact h2
          · rw [if_neg e1] at h1
            have k1 := of_decide_eq_false h1
            by_cases e2 : b = c
            · subst e2
              rw [if_neg e1]
              exact h1
            · rw [if_neg e2] at h2
              have k2 := of_decide_eq_false h2
              by_cases e3 : b = a
              · exfalso; omega
              · rw [if_neg e3]
                exact decide_eq_false (by omega)
theorem lexAt_shift {e r : Nat → Bool} {z : Bool} : ∀ (k i : Nat), Ob.lexAt e r z (i + 1) k = Ob.lexAt (fun j => e (j + 1)) (fun j => r (j + 1)) z i k
  | 0, _ => rfl
  | k + 1, i => by rw [Ob.lexAt_succ, Ob.lexAt_succ, lexAt_shift k (i + 1)]
theorem lexI_lexL : ∀ ns ms : List Int, lexI (fun i j => decide (i < j)) (fun i j => decide (i < j)) ns ms = lexL ns ms
  | [], [] => rfl
  | [], m :: ms => by simp [lexI, lexL, Ob.lexAt_zero]
  | n :: ns, [] => by simp [lexI, lexL, Ob.lexAt_zero]
  | n :: ns, m :: ms => by
    have ih := lexI_lexL ns ms
    unfold lexI at ih ⊢
    rw [show min (n :: ns).length (m :: ms).length = min ns.length ms.length + 1 by simp [Nat.succ_min_succ], Ob.lexAt_succ, lexAt_shift]
    unfold lexL
    by_cases h : n = m
    · subst h
      simp only [List.getD_cons_zero, decide_true, if_true]
      rw [← ih]
      congr 1
      simp
    · simp [h]
section
variable {prog : Program} {w : World} {A : Around} {E : Value → Shared → Prop} {s : Shared} {M : Model}
theorem mapM_each {α β : Type} {f : α → Sem β} {g : α → β} : ∀ (l : List α) {Q : List β → Shared → Prop}, (∀ v ∈ l, ∀ (Q' : β → Shared → Prop), Q' (g v) s → wpAny M A (f v) Q' E s) → Q (l.map g) s → wpAny M A (l.mapM f) Q E s
  | [], _, _, h => by rw [List.mapM_nil]; exact wpAny_pure h
  | x :: l, Q, hf, h => by
    rw [List.mapM_cons]
    exact wpAny_bind (hf x (.head _) _ (wpAny_bind (mapM_each l (Q := fun bs s' => wpAny M A (pure (g x :: bs)) Q E s') (fun v hv => hf v (.tail _ hv)) (wpAny_pure h))))
/-- v is a tuple of these ints -/
def TupI (h : Heap) (v : Value) (ns : List Int) : Prop := ∃ (t : Addr) (its : List Value), v = .ref t ∧ h.IsTuple t its.toArray ∧ IntsAre its ns
theorem oneLt_tup {x y : Value} {ns ms : List Int} {Q : Bool → Shared → Prop} (hu : A.units < cLine) (hx : TupI s.heap x ns) (hy : TupI s.heap y ms) (h : Q (lexL ns ms) s) : wpAny (model prog w) A (oneLt' true x y) Q E s := by
  obtain ⟨l, its, rfl, p1, i1⟩ := hx
  obtain ⟨b, its2, rfl, p2, i2⟩ := hy
  have e1 : its.toArray.size = ns.length := by rw [List.size_toArray]; exact i1.length
  have e2 : its2.toArray.size = ms.length := by rw [List.size_toArray]; exact i2.length
  have at1 : ∀ j (h1 : j < its.toArray.size), ∃ t, its.toArray[j] = .int (ns.getD j 0) t := fun j h1 => PyProof.Rows.IntsAre.int_at i1 _ _ (by simp at h1; simp [h1])
  have at2 : ∀ j (h1 : j < its2.toArray.size), ∃ t, its2.toArray[j] = .int (ms.getD j 0) t := fun j h1 => PyProof.Rows.IntsAre.int_at i2 _ _ (by simp at h1; simp [h1])
  obtain ⟨⟨cls, dd, data, sl⟩, ho, hc, n, hd⟩ := id p1
  obtain ⟨⟨cls2, dd2, data2, sl2⟩, ho2, hc2, n2, hd2⟩ := id p2
  simp only at hc hd hc2 hd2
  subst hc hd hc2 hd2
  rw [oneLt'_eq]
  simp only [if_true]
  refine wpAny_bind (wpAny_cRoomFor hu ?_)
  refine wpAny_bind (wpAny_callSpecialIfBound?_slot ⟨_, ho, rfl⟩ F.slot_tuple_lt ?_)
  refine call_meets F.slot_tuple_lt ⟨_, ho, rfl⟩ F.entry_tuple_lt (F.args_tuple_lt_2 _ _) (Ob.tuple_ltAt l b its.toArray its2.toArray n n2 dd dd2 sl sl2 (fun j => decide (ns.getD j 0 = ms.getD j 0)) (fun j => decide (ns.getD j 0 < ms.getD j 0)))
    ⟨ho, ho2, fun j h1 h2 => ?_, fun j h1 h2 _ => ?_, ?_⟩
  · obtain ⟨t, et⟩ := at1 j h1
    obtain ⟨t', et'⟩ := at2 j h2
    rw [et, et']
    have z : (ns.getD j 0 == ms.getD j 0) = decide (ns.getD j 0 = ms.getD j 0) := by
      by_cases q : ns.getD j 0 = ms.getD j 0
      · rw [decide_eq_true q]; exact beq_iff_eq.mpr q
      · rw [decide_eq_false q]; exact beq_eq_false_iff_ne.mpr q
    rw [← z]
    exact SeqAt.EqAt.int_int _ _ _ _
  · obtain ⟨t, et⟩ := at1 j h1
    obtain ⟨t', et'⟩ := at2 j h2
    rw [et, et']
    exact Ob.RcOp.lt_int _ _ _ _
  · rw [e1, e2]
    rw [← lexI_lexL] at h
    exact wpAny_truthy_bool h
theorem kind_tup0 {vs : List Value} {k : Value → List Int} {Q : SortKind → Shared → Prop} (h2 : 2 ≤ vs.length) (hp : ∀ v ∈ vs, TupI s.heap v (k v)) (h0 : ∃ v0 ∈ vs[0]?, k v0 = []) (h : Q oneType' s) : wpAny M A (keyKind' vs.toArray) Q E s := by
  obtain ⟨v₁, rest, rfl⟩ : ∃ v₁ rest, vs = v₁ :: rest := by
    match vs, h2 with
    | v₁ :: rest, _ => exact ⟨v₁, rest, rfl⟩
  have hk0 : k v₁ = [] := by
    obtain ⟨v0, hv, e⟩ := h0
    simp at hv
    subst hv
    exact e
  have hty : ∀ v ∈ v₁ :: rest, PySem.W.Looks M s.heap (typeOf v) (.type "tuple") := fun v hv => by
    obtain ⟨t, its, rfl, ⟨o, ho, hc, n, hd⟩, _⟩ := hp v hv
    have := (show PySem.W.Looks M s.heap (typeOf (.ref t)) o.cls from (PySem.W.Looks.ld ho).andThen .now)
    rw [hc] at this
    exact this
  -- the first item of each
  let g : Value → Option Value := fun v => match v with
    | .ref t => match s.heap.get? t with
      | some o => match o.data with
        | .seq xs _ => xs[0]?
        | _ => none
      | none => none
    | _ => none
  have hg : ∀ v ∈ v₁ :: rest, ∀ (Q' : Option Value → Shared → Prop), Q' (g v) s → wpAny M A (firstOfTuple' v) Q' E s := fun v hv Q' hq => by
    have hT := hty v hv
    obtain ⟨t, its, rfl, ⟨o, ho, hc, n, hd⟩, _⟩ := hp v hv
    rw [PySem.W.kas_first_eq]
    refine wpAny_bind (hT.here ?_)
    rw [if_neg (by first | decide | simp)]
    refine wpAny_bind (listItems_at ho hd (wpAny_pure ?_))
    have : g (.ref t) = its.toArray[0]? := by
      show (match s.heap.get? t with | some o => _ | none => _) = _
      rw [ho]
      simp only
      rw [hd]
    rw [← this]
    exact hq
  have hg0 : g v₁ = none := by
    obtain ⟨t, its, rfl, ⟨o, ho, hc, n, hd⟩, hi⟩ := hp v₁ List.mem_cons_self
    rw [hk0] at hi
    have : its = [] := List.length_eq_zero_iff.mp hi.length
    subst this
    show (match s.heap.get? t with | some o => _ | none => _) = _
    rw [ho]
    simp only
    rw [hd]
    rfl
  rw [keyKind'_eq, List.mapM_toArray, map_eq_pure_bind]
  refine wpAny_bind (wpAny_bind (mapM_each (g := g) _ hg (wpAny_pure ?_)))
  have e1 : ((List.map g (v₁ :: rest)).toArray.all fun x => x.isSome) = false := by
    rw [List.map_cons, hg0]; simp
  have e2 : ((List.map g (v₁ :: rest)).toArray[0]?.bind id).isSome = false := by
    rw [List.map_cons, hg0]; simp
  rw [if_neg (by rw [e1]; decide), if_neg (by rw [e2]; decide)]
  rw [oneTypeOnly'_eq, List.mapM_toArray, map_eq_pure_bind]
  refine wpAny_bind (wpAny_bind (wpAny_bind (PySem.W.kas_mapM (r := Value.type "tuple") _ (fun v hv Q' hq => (hty v hv).here hq) (wpAny_pure ?_))))
  have hall : ((List.map (fun _ => Value.type "tuple") (v₁ :: rest)).toArray.all fun x => x == Value.type "tuple") = true := by
    simp only [List.all_toArray, List.all_map, List.all_eq_true]
    intro _ _
    rfl
  have h0' : (List.map (fun _ => Value.type "tuple") (v₁ :: rest)).toArray[0]? = some (Value.type "tuple") := by simp
  rw [h0']
  simp only [hall, if_true]
  exact wpAny_pure (wpAny_pure h)
theorem TupI.keeps {h h' : Heap} {v : Value} {ns : List Int} (x : TupI h v ns) (k : ∀ b o, h.get? b = some o → o.cls = .type "tuple" → h'.get? b = some o) : TupI h' v ns := by
  obtain ⟨t, its, e, ⟨o, ho, hc, hd⟩, hi⟩ := x
  exact ⟨t, its, e, ⟨o, k _ _ ho hc, hc, hd⟩, hi⟩
theorem sortable0 {a : Addr} {vs : List Value} {k : Value → List Int} (hu : A.units < cLine) (h2 : 2 ≤ vs.length) (hp : ∀ v ∈ vs, TupI s.heap v (k v)) (h0 : ∃ v0 ∈ vs[0]?, k v0 = []) (ha : ∀ o, s.heap.get? a = some o → o.cls ≠ .type "tuple") : SrtO.SortableO prog w A s a vs fun v u => lexL (k v) (k u) := by
  intro h' keep
  have hp' : ∀ v ∈ vs, TupI h' v (k v) := fun v hm => (hp v hm).keeps fun b o e c => keep b o (fun z => by subst z; exact ha o e c) e
  refine ⟨oneType', fun Q E hq => kind_tup0 h2 hp' h0 hq, fun p q hm hm' => ?_⟩
  exact oneLt_tup (s := { s with heap := h' }) hu (hp' _ hm) (hp' _ hm') ⟨rfl, rfl⟩
theorem sorted_tup0 {l : Addr} {vs : List Value} {k : Value → List Int} {Q : Value → Shared → Prop} (hu : A.in1.in1.units < cLine) (hl : s.heap.IsList l vs.toArray) (hz : vs.length ≤ sizeLine) (hp : ∀ v ∈ vs, TupI s.heap v (k v)) (h0 : ∃ v0 ∈ vs[0]?, k v0 = [])
    (h : ∀ (h' : Heap) (d : Addr) (out : List Value), SrtO.Srtd (fun v u => lexL (k v) (k u)) out → SrtO.Stb (fun v u => lexL (k v) (k u)) out vs → (∀ b o, s.heap.get? b = some o → h'.get? b = some o) → s.heap.objs.size ≤ d → (∃ n, h'.get? d = some (seqObj "list" out.toArray n)) → Q (.ref d) { s with heap := h' }) :
    wpAny (model prog w) A (call (.builtin "sorted") [.ref l]) Q E s := by
  refine SrtO.sorted_ord (ltv := fun v u => lexL (k v) (k u)) ⟨fun x y => lexL_swo.asym _ _, fun x y z => lexL_swo.tr _ _ _⟩ hl hz (fun h2 h₁ a ha kk => ?_) fun out hs hb => ?_
  · refine sortable0 (s := { s with heap := h₁ }) hu h2 (fun v hm => (hp v hm).keeps fun b o e _ => (kk b o e).2) h0 fun o e => ?_
    have e' : some o = some (seqObj "list" vs.toArray 0) := e.symm.trans ha
    cases e'
    intro c
    exact absurd (Value.type.inj c) (by decide)
  · exact h _ _ out hs hb (fun b o e => sortedAll_old e) (Nat.le_succ _) (sortedAll_at s.heap vs out.toArray)
end

/-! sorted keys -/
def insK (a : List Int) : List (List Int) → List (List Int)
  | [] => [a]
  | b :: r => if lexL b a = true then b :: insK a r else a :: b :: r
def sortK : List (List Int) → List (List Int)
  | [] => []
  | a :: r => insK a (sortK r)
theorem insK_perm (a : List Int) : ∀ l, (insK a l).Perm (a :: l)
  | [] => .refl _
  | b :: r => by
    unfold insK
    split
    · exact ((insK_perm a r).cons b).trans (.swap a b r)
    · exact .refl _
theorem sortK_perm : ∀ l, (sortK l).Perm l
  | [] => .refl _
  | a :: r => (insK_perm a (sortK r)).trans ((sortK_perm r).cons a)
theorem insK_srt (a : List Int) : ∀ l, SrtO.Srtd lexL l → SrtO.Srtd lexL (insK a l)
  | [], _ => List.pairwise_singleton _ _
  | b :: r, h => by
    have h1 := List.pairwise_cons.mp h
    unfold insK
    split
    · rename_i hb
      refine List.pairwise_cons.mpr ⟨fun x hx => ?_, insK_srt a r h1.2⟩
      rcases List.mem_cons.mp ((insK_perm a r).mem_iff.mp hx) with e | hx
      · subst e; exact lexL_swo.asym _ _ hb
      · exact h1.1 x hx
    · rename_i hb
      have hb : lexL b a = false := by simpa using hb
      refine List.pairwise_cons.mpr ⟨fun x hx => ?_, h⟩
      rcases List.mem_cons.mp hx with e | hx
      · subst e; exact hb
      · exact lexL_swo.tr _ _ _ hb (h1.1 x hx)
theorem sortK_srt : ∀ l, SrtO.Srtd lexL (sortK l)
  | [] => List.Pairwise.nil
  | a :: r => insK_srt a _ (sortK_srt r)
theorem lexL_tot : ∀ x y : List Int, lexL x y = false → lexL y x = false → x = y
  | [], [], _, _ => rfl
  | [], _ :: _, h, _ => by cases h
  | _ :: _, [], _, h => by cases h
  | a :: r, b :: q, h1, h2 => by
    unfold lexL at h1 h2
    by_cases e : a = b
    · subst e
      rw [if_pos rfl] at h1 h2
      rw [lexL_tot r q h1 h2]
    · rw [if_neg e] at h1
      rw [if_neg fun z => e z.symm] at h2
      have k1 := of_decide_eq_false h1
      have k2 := of_decide_eq_false h2
      omega
theorem srt_uniq : ∀ {l m : List (List Int)}, SrtO.Srtd lexL l → SrtO.Srtd lexL m → l.Perm m → l = m
  | [], m, _, _, h => (List.Perm.eq_nil h.symm).symm
  | x :: l, [], _, _, h => absurd h.length_eq (by simp)
  | x :: l, y :: m, hl, hm, h => by
    have k1 := List.pairwise_cons.mp hl
    have k2 := List.pairwise_cons.mp hm
    have e : x = y := by
      rcases List.mem_cons.mp (h.mem_iff.mp List.mem_cons_self) with e | hx
      · exact e
      · rcases List.mem_cons.mp (h.mem_iff.mpr (List.mem_cons_self (a := y) (l := m))) with e | hy
        · exact e.symm
        · exact lexL_tot x y (k2.1 x hx) (k1.1 y hy)
    subst e
    rw [srt_uniq k1.2 k2.2 h.cons_inv]
theorem ints_inj : ∀ {vs : List Value} {ns ms : List Int}, IntsAre vs ns → IntsAre vs ms → ns = ms
  | _, _, _, .nil, .nil => rfl
  | _, _, _, .cons n t h, .cons _ _ h' => by rw [ints_inj h h']
theorem TupI.inj {h : Heap} {v : Value} {ns ms : List Int} (x : TupI h v ns) (y : TupI h v ms) : ns = ms := by
  obtain ⟨t, its, rfl, ⟨o, ho, hc, n, hd⟩, i1⟩ := x
  obtain ⟨t', its', e, ⟨o', ho', hc', n', hd'⟩, i2⟩ := y
  cases e
  rw [ho] at ho'
  cases ho'
  rw [hd] at hd'
  injection hd' with e1 e2
  have e3 : its = its' := by simpa using congrArg Array.toList e1
  subst e3
  exact ints_inj i1 i2

/-- sorted(l): what is asked, what comes: each item from its place -/
def rSrt (K : PySem.W.Frag) : List V → Hp → VK → Prop := fun vs H Q => ∃ (a : Addr) (xs : List V) (ks : List (List Int)), vs = [.ref a] ∧ SqL K H a xs ∧ xs.length = ks.length ∧
  (∀ (i : Nat) (x : V) (ns : List Int), xs[i]? = some x → ks[i]? = some ns → ∃ t : Addr, x = V.ref t ∧ SqT K H t (ns.map V.int)) ∧ ks[0]? = some [] ∧
  ∀ ys p, ys.length = (sortK ks).length → (∀ (i : Nat) (y : V), ys[i]? = some y → ∃ j : Nat, xs[j]? = some y ∧ ks[j]? = (sortK ks)[i]?) → H p = none → Q (.ref p) (upd H p (.lst ys))
theorem vals_get {vs : List V} {us : List Value} : Vals vs us → ∀ {i : Nat} {u : Value}, us[i]? = some u → ∃ v, vs[i]? = some v ∧ RelV v u := fun h => by
  induction h with
  | nil => intro i u e; simp at e
  | cons r t ih =>
    intro i u e
    cases i with
    | zero => simp at e; subst e; exact ⟨_, rfl, r⟩
    | succ i => simpa using ih (by simpa using e)
section
variable {X : Cx}
theorem cr_srt (hu : X.A.in1.in1.units < cLine) : CallR X (.builtin "sorted") (rSrt X.K) := by
  intro pins s σ H vs us Q I r h
  obtain ⟨a, xs, ks, rfl, hs, hlen, hx, h0, q⟩ := h
  obtain ⟨its, rv, hl, hz⟩ := I.list hs
  obtain ⟨u, rfl, ru⟩ := vals1 r
  obtain rfl : u = Value.ref a := ru
  have hil : its.length = xs.length := rv.length.symm
  -- the key of an item
  have hkey : ∀ i (v : Value), its[i]? = some v → ∃ ns, ks[i]? = some ns ∧ TupI s.heap v ns ∧ ∃ t : Addr, xs[i]? = some (V.ref t) ∧ v = Value.ref t := fun i v hv => by
    obtain ⟨x, hxi, rx⟩ := vals_get rv hv
    have hi : i < ks.length := by rw [← hlen, ← hil]; exact (List.getElem?_eq_some_iff.mp hv).1
    obtain ⟨t, rfl, hq⟩ := hx i x ks[i] hxi (List.getElem?_eq_getElem hi)
    obtain rfl : v = Value.ref t := rx
    obtain ⟨zs, r1, p1, _⟩ := I.tuple hq
    exact ⟨_, List.getElem?_eq_getElem hi, ⟨t, zs, rfl, p1, Vals.ints r1⟩, t, hxi, rfl⟩
  obtain ⟨kf, hkf⟩ : ∃ kf : Value → List Int, ∀ v ns, TupI s.heap v ns → kf v = ns := by
    classical
    refine ⟨fun v => if h : ∃ ns, TupI s.heap v ns then Classical.choose h else [], fun v ns h => ?_⟩
    have hh : ∃ ns, TupI s.heap v ns := ⟨ns, h⟩
    show dite _ _ _ = _
    rw [dif_pos hh]
    exact (Classical.choose_spec hh).inj h
  have hmap : its.map kf = ks := by
    apply List.ext_getElem?
    intro i
    rw [List.getElem?_map]
    cases hv : its[i]? with
    | none =>
      have : its.length ≤ i := by simpa using hv
      rw [List.getElem?_eq_none (by omega)]; rfl
    | some v =>
      obtain ⟨ns, h1, h2, _⟩ := hkey i v hv
      rw [h1]
      show some (kf v) = some ns
      rw [hkf v ns h2]
  refine sorted_tup0 (k := kf) hu hl.isList (by rw [hil]; exact I.list hs |>.elim fun _ h => by omega) (fun v hv => ?_) ?_ fun h' d out h1 h2 kp hd hn => ?_
  · obtain ⟨i, hi⟩ := List.mem_iff_getElem?.mp hv
    obtain ⟨ns, _, k2, _⟩ := hkey i v hi
    rw [hkf v ns k2]; exact k2
  · cases hv : its[0]? with
    | none =>
      exfalso
      have : its.length ≤ 0 := by simpa using hv
      have : 0 < ks.length := (List.getElem?_eq_some_iff.mp h0).1
      omega
    | some v =>
      obtain ⟨ns, k1, k2, _⟩ := hkey 0 v hv
      rw [h0] at k1
      cases k1
      exact ⟨v, rfl, hkf v _ k2⟩
  · obtain ⟨n, hn⟩ := hn
    have hperm : (out.map kf).Perm ks := by rw [← hmap]; exact h2.perm.map kf
    have hout : out.map kf = sortK ks := srt_uniq (SrtO.srtd_map h1) (sortK_srt ks) (hperm.trans (sortK_perm ks).symm)
    have hmem : ∀ u ∈ out, ∃ i, its[i]? = some u := fun u hu => List.mem_iff_getElem?.mp (h2.perm.mem_iff.mp hu)
    have h3 : ∀ u ∈ out, ∃ a, u = Value.ref a := fun u hu => by
      obtain ⟨i, hi⟩ := hmem u hu
      obtain ⟨_, _, _, t, _, e⟩ := hkey i u hi
      exact ⟨t, e⟩
    refine ⟨.ref d, upd H d (.lst (out.map backV)), I.laid (t' := s.toks) kp hd ⟨?_, out, n, vals_back h3, hn⟩, rfl, q _ d (by rw [← hout]; simp) (fun i y hy => ?_) (I.hok.fresh hd)⟩
    · rw [List.length_map, h2.perm.length_eq, hil]
      obtain ⟨_, _, _, hz'⟩ := I.list hs
      omega
    · rw [List.getElem?_map] at hy
      cases hv : out[i]? with
      | none => rw [hv] at hy; cases hy
      | some v =>
        rw [hv] at hy
        cases hy
        obtain ⟨j, hj⟩ := hmem v (List.mem_of_getElem? hv)
        obtain ⟨ns, k1, k2, t, k3, rfl⟩ := hkey j v hj
        refine ⟨j, k3, ?_⟩
        rw [k1, ← hout, List.getElem?_map, hv]
        show some ns = some (kf (.ref t))
        rw [hkf _ ns k2]
end

/-! as an operation of the layer -/
def tupsD : List D → Option (List (List Int))
  | [] => some []
  | .tup xs :: r => match intsD xs, tupsD r with
    | some ns, some ks => some (ns :: ks)
    | _, _ => none
  | _ => none
def iTup (ns : List Int) : D := .tup (ns.map .int)
theorem tupsD_map : ∀ ks : List (List Int), tupsD (ks.map iTup) = some ks
  | [] => rfl
  | k :: r => by
    show (match intsD (k.map D.int), tupsD (r.map iTup) with | some ns, some ks => some (ns :: ks) | _, _ => none) = _
    rw [intsD_map, tupsD_map r]
theorem intsD_inv : ∀ {xs : List D} {ns : List Int}, intsD xs = some ns → xs = ns.map .int
  | [], _, h => by simp [intsD] at h; subst h; rfl
  | d :: r, ns, h => by
    unfold intsD at h
    split at h
    · rename_i e; cases e
    · rename_i i r' e
      cases e
      cases hr : intsD r with
      | none => rw [hr] at h; cases h
      | some ms =>
        rw [hr] at h
        simp only [Option.map_some, Option.some.injEq] at h
        subst h
        rw [intsD_inv hr]; rfl
    · cases h
theorem tupsD_inv : ∀ {xs : List D} {ks : List (List Int)}, tupsD xs = some ks → xs = ks.map iTup
  | [], _, h => by simp [tupsD] at h; subst h; rfl
  | d :: r, ks, h => by
    cases d with
    | tup ys =>
      unfold tupsD at h
      cases h1 : intsD ys with
      | none => rw [h1] at h; cases h
      | some ns =>
        cases h2 : tupsD r with
        | none => rw [h1, h2] at h; cases h
        | some ms =>
          rw [h1, h2] at h
          simp only [Option.some.injEq] at h
          subst h
          rw [intsD_inv h1, tupsD_inv h2]; rfl
    | _ => simp [tupsD] at h
/-- sorted(l): tuples of ints, the first of them empty -/
def oSrt : OC := fun env st ds => match ds with
  | [d] => match (seqL env st d).bind tupsD with
    | some ([] :: ks) => .ok (.lst ((sortK ([] :: ks)).map iTup)) st
    | _ => .no
  | _ => .no
section
variable {Γ : Ga} {K : PySem.W.Frag} {E : WX}
theorem snd_srt : SndC K E (rSrt K) oSrt := fun B ρ F env st σ H Q vs ds S r h => by
  unfold oSrt at h
  split at h
  · obtain ⟨v, rfl, r1⟩ := r.one
    split at h
    · rename_i ks hk
      obtain ⟨xs, h1, h2⟩ := Option.bind_eq_some_iff.mp hk
      obtain ⟨a, us, rfl, g0, g1⟩ := seqL_ok S r1 h1
      have hx := tupsD_inv h2
      have hl : us.length = ([] :: ks).length := by rw [g1.length, hx, List.length_map]
      refine ⟨a, us, [] :: ks, rfl, .inl (.inl g0), hl, fun i x ns e1 e2 => ?_, rfl, fun ys p hy hp hn => ?_⟩
      · obtain ⟨d, k1, k2⟩ := g1.get' e1
        rw [hx, List.getElem?_map, e2] at k1
        cases k1
        cases k2 with
        | tup q1 q2 =>
          rw [intsD_ok (intsD_map ns) q2] at q1
          exact ⟨_, rfl, (sqU_mono S.so.sub q1).t⟩
      · refine ret_lst S h ?_ hn
        have key : ∀ (ys : List V) (zs : List (List Int)), ys.length = zs.length → (∀ (i : Nat) (y : V), ys[i]? = some y → ∃ j : Nat, us[j]? = some y ∧ ([] :: ks)[j]? = zs[i]?) → RpL K ρ F ys (zs.map iTup) := by
          intro ys
          induction ys with
          | nil =>
            intro zs hz _
            have : zs = [] := List.length_eq_zero_iff.mp hz.symm
            subst this
            exact .nil
          | cons y ys ih =>
            intro zs hz hm
            cases zs with
            | nil => simp at hz
            | cons z zs =>
              obtain ⟨j, m1, m2⟩ := hm 0 y rfl
              obtain ⟨d, k1, k2⟩ := g1.get' m1
              rw [hx, List.getElem?_map, m2] at k1
              cases k1
              exact .cons k2 (ih zs (by simpa using hz) fun i y' hy' => by simpa using hm (i + 1) y' (by simpa using hy'))
        exact key ys _ hy hp
    · exact h.elim
  · exact h.elim
theorem room_lt2 {k : Nat} {A : Around} (h : Room k A) : A.in1.in1.units < cLine := by
  have h1 := h.units
  have h2 : A.in1.in1.units ≤ A.units + 64 := by
    show A.units + 1 + 1 ≤ A.units + 64
    omega
  exact Nat.lt_of_le_of_lt h2 h1
theorem dc_sorted : DC Γ (.builtin "sorted") oSrt := ⟨rSrt Γ.K, fun X m => by rw [← m.K]; exact cr_srt (room_lt2 m.room), snd_srt⟩
theorem ev_srt {env : Env} {st : Store} {ks : List (List Int)} : oSrt env st [.lst (([] :: ks).map iTup)] = .ok (.lst ((sortK ([] :: ks)).map iTup)) st := by
  unfold oSrt
  simp only [seqL, Option.bind_some, tupsD_map]
end

/-! an owned list is frozen ahead of a statement, if it is not yet -/
def frzI (i : Nat) (f : FS) : FS := fun env st => match env[i]? with
  | some (.ol xs) => f (env.set i (.fz (.lst xs))) st
  | some (.fz _) => f env st
  | _ => .no
theorem ds_frzI {Γ : Ga} {s : Stmt} {f : FS} (i : Nat) (h : DS Γ s f) : DS Γ s (frzI i f) := by
  obtain ⟨t, p, q⟩ := h.run
  refine ⟨t, p, fun B ρ F env st σ H D S q' => ?_⟩
  unfold frzI at q'
  split at q'
  · rename_i xs hi
    obtain ⟨F1, S1, e1⟩ := S.frzSlot hi
    exact q B ρ F1 _ st σ H D S1 (q'.on (.refl _) e1)
  · exact q B ρ F _ st σ H D S q'
  · exact q'.elim
end DL
namespace DL
open PySem PySem.Spec PyProof.Rows L2
/-! ### dicts whose keys are tuples of ints -/
theorem small_ltD {n : Nat} (h : n < 100000) : n < sizeLine := Nat.lt_of_lt_of_le h (by decide)
section
variable {X : Cx} {k v : Expr} {pos : Pos} {tk tv : TE}
/-- {k: v}, k a tuple; the new dict stands empty while the pair is made -/
def tDispT (tk tv : TE) : TE := fun σ H Q => ∀ p, H p = none → tPairs [(tk, tv)] σ (upd H p (.dT [])) fun ps H2 => ∃ x y, ps = [(x, y)] ∧ H2 p = some (.dT []) ∧
  ∃ (b : Addr) (ks : List Key), x = .ref b ∧ H2 b = some (.tup (ks.map kV)) ∧ Q (.ref p) (upd H2 p (.dT [(ks, y)]))
theorem pe_dispT (hu : X.A.units + 1 < cLine) (hk : PE X k tk) (hv : PE X v tv) : PE X (.Dict [some k] [v] pos) (tDispT tk tv) := by
  refine ⟨fun pins s σ H Q I q => ?_⟩
  have hn := I.hok.fresh (Nat.le_refl s.heap.objs.size)
  have I1 := I.laid (a := s.heap.objs.size) (o := .dT []) (h' := s.heap.push { cls := .type "dict", data := .dict #[] }) (t' := s.toks) (fun _ _ q => Heap.get?_push_of_some _ q) (Nat.le_refl _) (dt_empty s.heap I.big)
  have hall : ([some k] : List (Option Expr)).all (·.isSome) = true := rfl
  have hl : ([some k] : List (Option Expr)).length = [v].length := rfl
  have hpl := pairTrees_length [some k] [v] X.env pos hall hl
  rw [arm_eval_Dict, zip_pairTrees [some k] [v] X.env pos hall hl, dictDisplay_pairs _ (fun e => by rw [e] at hpl; cases hpl) (by rw [hpl]; simp)]
  refine wpAny_bind (wpAny_standAt (wpAny_bind (wpAny_subDictH (knd := tupleKind (mixKind X.prog X.w)) (Q := fun d s' => wpAny (model X.prog X.w) X.A (pure (Value.ref d)) (EP X pins σ Q) X.xe s') ?_ (by rw [hpl]; simp) ?_)))
  · exact Nat.lt_of_succ_lt hu
  · refine thn ((pps_cons hk hv pps_nil).run pins _ σ _ (fun ps H2 => ∃ x y, ps = [(x, y)] ∧ H2 s.heap.objs.size = some (.dT []) ∧ ∃ (b : Addr) (ks : List Key), x = .ref b ∧ H2 b = some (.tup (ks.map kV)) ∧ Q (.ref s.heap.objs.size) (upd H2 s.heap.objs.size (.dT [(ks, y)]))) I1 ?_) fun ws s2 ⟨ps, H2, I2, rel, x, y, ep, e, b, ks, ex, eb, q2⟩ => ?_
    · exact q _ hn
    · subst ep ex
      cases rel with
      | @cons p0 pr ps0 ws0 r1 r2 =>
        cases r2
        obtain ⟨u, w2⟩ := pr
        obtain ⟨ru, rw2⟩ := r1
        obtain rfl : u = Value.ref b := ru
        obtain ⟨z, hd, xs, rk, dd⟩ := dt_of I2.hok e
        have hx : xs = [] := List.length_eq_zero_iff.mp (Paired.length rk).symm
        subst hx
        refine ⟨[(ks, b, w2)], ⟨rfl, rfl, key_of I2.hok eb, trivial⟩, dd, fun h' tk' dd' hs => wpAny_pure ?_⟩
        obtain ⟨q', es, ep', hq, h2, h3, h4, _, h5⟩ := dd'
        have ob : ObjOk X.prog X.w (upd H2 s.heap.objs.size (.dT [(ks, y)])) h' s.heap.objs.size (.dT [(ks, y)]) := by
          refine ⟨small_ltD (by simp) |> Nat.le_of_lt, hd, [(ks, b, w2)], .cons ⟨rfl, ?_, rw2⟩ .nil, q', es, ep', hq, h2, h3, h4, h5⟩
          rw [upd_ne (ne_of eb e (fun z => nomatch z))]
          exact eb
        exact ⟨.ref s.heap.objs.size, _, d_write I2 (by rw [e]; exact True.intro) hs ⟨q', hq⟩ ob, rfl, q2⟩
end

/-! what a dict holds -/
def keyD : D → Option (List Int)
  | .tup xs => intsD xs
  | _ => none
def dicD (env : Env) : D → Option (List (List Int × D))
  | .dic kvs => some kvs
  | .sl i => match env[i]? with
    | some (.od kvs) => some kvs
    | _ => none
  | _ => none
/-- the model's dict and ours -/
structure DicR (K : PySem.W.Frag) (ρ : List Addr) (F : Hp) (kv : List (List Key × V)) (kvs : List (List Int × D)) : Prop where
  keys : kv.map (·.1) = kvs.map (fun p => p.1.map Sum.inl)
  vals : RpL K ρ F (kv.map (·.2)) (kvs.map (·.2))
section
variable {K : PySem.W.Frag} {E : WX} {B : Base} {ρ ρ' : List Addr} {F F' H H' : Hp} {env env' : Env} {st st' : Store} {σ σ' : L2.St} {v : V} {d : D}
theorem dic_ok {kvs : List (List Int × D)} (S : Sim K B ρ F env st σ H) (r : RpV K ρ F env σ v d) (h : dicD env d = some kvs) : ∃ a kv, v = .ref a ∧ Rd H a (.dT kv) ∧ DicR K ρ F kv kvs := by
  unfold dicD at h
  split at h
  · cases h
    rcases r with r | ⟨_, _, _, e, _⟩
    · cases r with
      | dic h1 hk r1 => exact ⟨_, _, rfl, .inr ⟨_, S.so.sub _ _ h1⟩, hk, r1⟩
    · cases e
  · split at h
    · rename_i i _ kv0 hi
      cases h
      rcases r with r | ⟨j, a, s, e, h1, h2, h3, rfl⟩
      · cases r
      · cases e
        obtain ⟨b, kv, q1, q2, q3, q4, q5, q6⟩ := S.sl _ _ hi
        cases h3.inj q1
        exact ⟨_, kv, rfl, .inl q4, q5, q6⟩
    · cases h
  · cases h
theorem key_ok {ns : List Int} (S : Sim K B ρ F env st σ H) (r : RpV K ρ F env σ v d) (h : keyD d = some ns) : ∃ b, v = .ref b ∧ H b = some (.tup ((ns.map Sum.inl : List Key).map kV)) := by
  unfold keyD at h
  split at h
  · have r1 := r.rp rfl
    cases r1 with
    | tup h1 r1 =>
      cases intsD_ok h r1
      refine ⟨_, rfl, ?_⟩
      have := S.so.sub _ _ h1.at_
      rw [this, List.map_map]
      rfl
  · cases h
theorem inl_inj : ∀ {a b : List Int}, (a.map Sum.inl : List Key) = b.map Sum.inl → a = b
  | [], [], _ => rfl
  | [], _ :: _, h => by simp at h
  | _ :: _, [], h => by simp at h
  | x :: xs, y :: ys, h => by
    simp only [List.map_cons, List.cons.injEq, Sum.inl.injEq] at h
    rw [h.1, inl_inj h.2]
theorem DicR.get : ∀ {kv : List (List Key × V)} {kvs : List (List Int × D)} (_ : DicR K ρ F kv kvs) (ns : List Int),
    (valV kv (ns.map Sum.inl)).isSome = (kvs.lookup ns).isSome ∧ ∀ d, kvs.lookup ns = some d → ∃ v, valV kv (ns.map Sum.inl) = some v ∧ Rp K ρ F v d
  | [], [], _, ns => ⟨rfl, fun d h => by simp at h⟩
  | [], _ :: _, h, _ => by have := h.keys; simp at this
  | _ :: _, [], h, _ => by have := h.keys; simp at this
  | (k, v) :: kv, (n, d) :: kvs, h, ns => by
    have hk := h.keys
    simp only [List.map_cons, List.cons.injEq] at hk
    have hv := h.vals
    simp only [List.map_cons] at hv
    cases hv with
    | cons r1 r2 =>
      have ih := DicR.get ⟨hk.2, r2⟩ ns
      by_cases e : n = ns
      · subst e
        have e1 : valV ((k, v) :: kv) (n.map Sum.inl) = some v := by rw [hk.1]; exact valV_pos rfl
        rw [e1]
        simp only [List.lookup_cons, beq_self_eq_true]
        exact ⟨rfl, fun d' hd => by cases hd; exact ⟨v, rfl, r1⟩⟩
      · have e1 : valV ((k, v) :: kv) (ns.map Sum.inl) = valV kv (ns.map Sum.inl) := valV_neg (fun z => e (inl_inj (hk.1.symm.trans z)))
        have e2 : (ns == n) = false := by simpa using fun z => e z.symm
        rw [e1]
        simp only [List.lookup_cons, e2]
        exact ih
end

section
variable {Γ : Ga} {K : PySem.W.Frag} {E : WX}
variable {a b e o i : Expr} {fa fb fo fi : FE} {pos pos' p : Pos} {s : Stmt} {f : FS}
variable {B : Base} {ρ ρ' : List Addr} {F F' H H' : Hp} {env env' : Env} {st st' : Store} {σ σ' : L2.St} {v : V} {d : D}
/-- d[k] -/
def dgt (fo fi : FE) : FE := fun env st => (fo env st).bind fun o s1 => (fi env s1).bind fun k s2 => match dicD env o, keyD k with
  | some kvs, some ns => match kvs.lookup ns with
    | some d => .ok d s2
    | none => .no
  | _, _ => .no
theorem de_dget (ho : DE Γ o fo) (hi : DE Γ i fi) (hs : NoSl i := by intro _ _; rfl) : DE Γ (.Subscript o i pos) (dgt fo fi) := by
  obtain ⟨t, p, q⟩ := ho.run
  obtain ⟨u, p1, q1⟩ := hi.run
  refine ⟨tDGet t u, fun X m => pe_dget (hu_of m.room) (p X m) (p1 X m) hs, fun B ρ F env st σ H Q S h => q B ρ F env st σ H _ S (Out.bind h fun od s1 ρ1 F1 H1 vo S1 l1 e1 r1 h1 => q1 B ρ1 F1 env s1 σ H1 _ S1 (Out.bind h1 fun kd s2 ρ2 F2 H2 vk S2 l2 e2 r2 h2 => ?_))⟩
  split at h2
  · rename_i kvs ns hd hk
    obtain ⟨a, kv, rfl, g1, g2⟩ := dic_ok S2 (r1.mono l2 e2) hd
    obtain ⟨b, rfl, g3⟩ := key_ok S2 r2 hk
    split at h2
    · rename_i d hl
      obtain ⟨w, g4, g5⟩ := (g2.get ns).2 d hl
      exact ⟨a, w, rfl, .inr ⟨kv, _, b, g1, rfl, g3, g4.symm⟩, h2.ret S2 (.inl g5)⟩
    · exact h2.elim
  · exact h2.elim
/-- k in d, k not in d -/
def oInD (neg : Bool) : O2 := fun env st x y => match keyD x, dicD env y with
  | some ns, some kvs => .ok (.bl (if neg = true then !(kvs.lookup ns).isSome else (kvs.lookup ns).isSome)) st
  | _, _ => .no
def rInD (neg : Bool) : R2 := fun x y H Q => ∃ a o, y = .ref a ∧ DGet H a x o ∧ Q (.bl (if neg = true then !o.isSome else o.isSome)) H
theorem snd_inD {neg : Bool} : SndO K E (rInD neg) (oInD neg) := fun B ρ F env st σ H Q x y dx dy S rx ry h => by
  unfold oInD at h
  split at h
  · rename_i ns kvs hk hd
    obtain ⟨a, kv, rfl, g1, g2⟩ := dic_ok S ry hd
    obtain ⟨b, rfl, g3⟩ := key_ok S rx hk
    refine ⟨a, _, rfl, .inr ⟨kv, _, b, g1, rfl, g3, rfl⟩, ?_⟩
    rw [(g2.get ns).1]
    exact h.ret S (.inl (.bl _))
  · exact h.elim
theorem do_inD : DO Γ (compareOp .In) (oInD false) := ⟨rInD false, fun X m => by
  intro pins s σ H x y v u Q I rx ry h
  obtain ⟨a, ov, rfl, g, q⟩ := h
  obtain rfl : u = Value.ref a := ry
  exact d_in (hu_of m.room) I g rx fun s3 I3 => ⟨.bl ov.isSome, H, I3, rfl, q⟩, snd_inD⟩
theorem do_ninD : DO Γ (compareOp .NotIn) (oInD true) := ⟨rInD true, fun X m => by
  intro pins s σ H x y v u Q I rx ry h
  obtain ⟨a, ov, rfl, g, q⟩ := h
  obtain rfl : u = Value.ref a := ry
  exact d_notIn (hu_of m.room) I g rx fun s3 I3 => ⟨.bl (!ov.isSome), H, I3, rfl, q⟩, snd_inD⟩
/-- len(d) -/
def oLenD : OC := fun env st ds => match ds with
  | [d] => match dicD env d with
    | some kvs => .ok (.int kvs.length) st
    | none => .no
  | _ => .no
end

/-! a dict that a slot holds is changed -/
section
variable {K : PySem.W.Frag} {E : WX} {B : Base} {ρ ρ' : List Addr} {F F' H H' : Hp} {env env' : Env} {st st' : Store} {σ σ' : L2.St} {v : V} {d : D}
theorem InsK.dT {H : Hp} {p : Addr} {xs : List (List Key × V)} {o : HO} (h : H p = some (.dT xs)) : InsK H (upd H p o) := fun a C dx fv e => by
  have n : a ≠ p := fun z => by rw [z, h] at e; cases e
  exact ⟨fv, by rw [upd_ne n]; exact e⟩
theorem StOk.dT {a : Addr} {vs : List (List Key × V)} {o : HO} (S : StOk K ρ F H st) (ha : H a = some (.dT vs)) (hF : F a = none) (hρ : a ∉ ρ) : StOk K ρ F (upd H a o) st := by
  refine ⟨fun b u hu => ?_, S.nd, S.len, fun i c b h1 h2 => ?_⟩
  · have n : b ≠ a := fun z => by rw [z, hF] at hu; cases hu
    rw [upd_ne n]; exact S.sub b u hu
  · obtain ⟨q1, q2⟩ := S.at_ i c b h1 h2
    have n : b ≠ a := fun z => hρ (z ▸ List.mem_of_getElem? h2)
    refine ⟨q1, ?_⟩
    cases c with
    | lst xs => obtain ⟨ws, r1, r2⟩ := q2; exact ⟨ws, by rw [upd_ne n]; exact r1, r2⟩
    | ins C fs =>
      obtain ⟨dx, fv, r1, r2, r3, r4⟩ := q2
      have n2 : dx ≠ a := fun z => by rw [z, ha] at r2; cases r2
      exact ⟨dx, fv, by rw [upd_ne n]; exact r1, by rw [upd_ne n2]; exact r2, r3, r4⟩
theorem Sim.slDict {i : Nat} {a : Addr} {xs ys : List (List Int × D)} {vs us : List (List Key × V)} (S : Sim K B ρ F env st σ H) (hi : env[i]? = some (.od xs)) (ho : OwnAt σ i a) (ha : H a = some (.dT vs)) (r : DicR K ρ F us ys) : Sim K B ρ F (env.set i (.od ys)) st σ (upd H a (.dT us)) := by
  obtain ⟨b, ws, h1, h2, h3, h4, h5, h6⟩ := S.sl _ _ hi
  cases ho.inj h1
  have hlt : i < env.length := (List.getElem?_eq_some_iff.mp hi).1
  have key : ∀ (j : Nat) (t : Slot), (env.set i (.od ys))[j]? = some t → (j = i ∧ t = .od ys) ∨ (j ≠ i ∧ env[j]? = some t) := fun j t hj => by
    by_cases e : j = i
    · subst e
      rw [List.getElem?_set_self hlt] at hj
      cases hj
      exact .inl ⟨rfl, rfl⟩
    · rw [List.getElem?_set_ne (Ne.symm e)] at hj
      exact .inr ⟨e, hj⟩
  refine ⟨S.so.dT ha h2 h3, by simp [S.len], fun j t hj => ?_, fun j k t u x hj hk ht hu hb hc => ?_, fun j t x hj ht hb => ?_, S.lg, S.fs, S.fnew, S.rnew, fun x o hx q1 q2 => ?_, S.ins.trans (.dT ha)⟩
  · rcases key j t hj with ⟨rfl, rfl⟩ | ⟨n, q⟩
    · exact ⟨a, us, ho, h2, h3, upd_same, r.keys, r.vals⟩
    · refine (S.sl j t q).mono (.refl _) (.refl _) fun x hx ht => ?_
      obtain ⟨y, g1, g2, g3, o, g4⟩ := (S.sl j t q).own ht
      cases hx.inj g1
      have nx : x ≠ a := fun z => n (S.apart j i t _ a q hi ht rfl (z ▸ hx) ho)
      exact ⟨g2, g3, fun o h => by rw [upd_ne nx]; exact h⟩
  · have hj' : ∃ t', env[j]? = some t' ∧ t'.owned = true := by
      rcases key j t hj with ⟨rfl, rfl⟩ | ⟨_, q⟩
      · exact ⟨_, hi, rfl⟩
      · exact ⟨_, q, ht⟩
    have hk' : ∃ t', env[k]? = some t' ∧ t'.owned = true := by
      rcases key k u hk with ⟨rfl, rfl⟩ | ⟨_, q⟩
      · exact ⟨_, hi, rfl⟩
      · exact ⟨_, q, hu⟩
    obtain ⟨t1, g1, g2⟩ := hj'
    obtain ⟨t2, g3, g4⟩ := hk'
    exact S.apart j k t1 t2 x g1 g3 g2 g4 hb hc
  · rcases key j t hj with ⟨rfl, rfl⟩ | ⟨_, q⟩
    · exact S.ownO _ _ x hi rfl hb
    · exact S.ownO j t x q ht hb
  · have n : x ≠ a := fun z => by
      rcases S.ownO i _ a hi rfl ho with w | w
      · exact q2 (z ▸ w)
      · rw [z, w] at hx; cases hx
    rw [upd_ne n]; exact S.keep x o hx q1 q2
/-- stored: in its place, or at the end -/
def putD (kvs : List (List Int × D)) (ns : List Int) (d : D) : List (List Int × D) :=
  if (kvs.any fun p => decide (p.1 = ns)) = true then kvs.map (fun p => if p.1 = ns then (p.1, d) else p) else kvs ++ [(ns, d)]
theorem any_keys : ∀ {kv : List (List Key × V)} {kvs : List (List Int × D)} (ns : List Int), kv.map (·.1) = kvs.map (fun p => p.1.map Sum.inl) → (kv.any fun p => decide (p.1 = ns.map Sum.inl)) = kvs.any fun p => decide (p.1 = ns)
  | [], [], _, _ => rfl
  | [], _ :: _, _, h => by simp at h
  | _ :: _, [], _, h => by simp at h
  | (k, v) :: kv, (n, d) :: kvs, ns, h => by
    simp only [List.map_cons, List.cons.injEq] at h
    rw [List.any_cons, List.any_cons, any_keys ns h.2]
    congr 1
    have : (k = ns.map Sum.inl) ↔ n = ns := ⟨fun e => inl_inj (h.1.symm.trans e), fun e => by rw [h.1, e]⟩
    exact decide_eq_decide.mpr this
theorem DicR.repl (ns : List Int) {w : V} {d : D} (r : Rp K ρ F w d) : ∀ {kv : List (List Key × V)} {kvs : List (List Int × D)}, DicR K ρ F kv kvs →
    DicR K ρ F (kv.map fun p => if p.1 = ns.map Sum.inl then (p.1, w) else p) (kvs.map fun p => if p.1 = ns then (p.1, d) else p)
  | [], [], _ => ⟨rfl, .nil⟩
  | [], _ :: _, h => by have := h.keys; simp at this
  | _ :: _, [], h => by have := h.keys; simp at this
  | (k, v) :: kv, (n, d0) :: kvs, h => by
    have hk := h.keys
    simp only [List.map_cons, List.cons.injEq] at hk
    have hv := h.vals
    simp only [List.map_cons] at hv
    cases hv with
    | cons r1 r2 =>
      have ih := DicR.repl ns r ⟨hk.2, r2⟩
      by_cases e : n = ns
      · have e2 : k = ns.map Sum.inl := by rw [hk.1, e]
        refine ⟨?_, ?_⟩
        · simp only [List.map_cons, e, e2, if_true]
          exact List.cons_eq_cons.mpr ⟨rfl, ih.keys⟩
        · simp only [List.map_cons, e, e2, if_true]
          exact .cons r ih.vals
      · have e2 : ¬ k = ns.map Sum.inl := fun z => e (inl_inj (hk.1.symm.trans z))
        refine ⟨?_, ?_⟩
        · simp only [List.map_cons, e, e2, if_false]
          exact List.cons_eq_cons.mpr ⟨hk.1, ih.keys⟩
        · simp only [List.map_cons, e, e2, if_false]
          exact .cons r1 ih.vals
theorem DicR.put {kv : List (List Key × V)} {kvs : List (List Int × D)} (h : DicR K ρ F kv kvs) (ns : List Int) {w : V} {d : D} (r : Rp K ρ F w d) : DicR K ρ F (putK kv (ns.map Sum.inl) w) (putD kvs ns d) := by
  unfold putK putD
  rw [any_keys ns h.keys]
  split
  · exact h.repl ns r
  · refine ⟨?_, ?_⟩
    · rw [List.map_append, List.map_append, h.keys]; rfl
    · rw [List.map_append, List.map_append]
      exact h.vals.append (.cons r .nil)
end

section
variable {Γ : Ga} {a b e o i : Expr} {fa fb fo fi fv : FE} {pos pos' p : Pos} {es : List Expr} {g : FM}
/-- d[k] = v, d in a slot -/
def dpt (fo fi fv : FE) : FS := fun env st => (fv env st).toS env fun v s1 => if v.isSl = true then .no else (fo env s1).toS env fun o s2 => (fi env s2).toS env fun k s3 => match o, keyD k with
  | .sl j, some ns => match env[j]? with
    | some (.od kvs) => if kvs.length < 100000 then .nx (env.set j (.od (putD kvs ns v))) s3 else .no
    | _ => .no
  | _, _ => .no
theorem ds_dput (ho : DE Γ o fo) (hi : DE Γ i fi) (hv : DE Γ e fv) (hs : ∀ env : PySem.Env, swapsWith e (some (.Subscript o i pos')) pos.line env = pure false := by intro _; rfl) : DS Γ (.Assign [.Subscript o i pos'] e pos) (dpt fo fi fv) := by
  obtain ⟨t, p, q⟩ := ho.run
  obtain ⟨u, p1, q1⟩ := hi.run
  obtain ⟨w, p2, q2⟩ := hv.run
  refine ⟨_, fun X m => ps_dput (hu_of m.room) (p X m) (p1 X m) (p2 X m) (hs X.env), fun B ρ F env st σ H T S h => q2 B ρ F env st σ H _ S (OutS.bind h fun d s1 ρ1 F1 H1 v S1 l1 e1 r1 h1 => ?_)⟩
  split at h1
  · exact h1.elim
  · rename_i hsl
    have rv := r1.rp (by simpa using hsl)
    refine q B ρ1 F1 env s1 σ H1 _ S1 (OutS.bind h1 fun od s2 ρ2 F2 H2 vo S2 l2 e2 r2 h2 => q1 B ρ2 F2 env s2 σ H2 _ S2 (OutS.bind h2 fun kd s3 ρ3 F3 H3 vk S3 l3 e3 r3 h3 => ?_))
    split at h3
    · rename_i j ns hk
      split at h3
      · rename_i kvs hj
        split at h3
        · rename_i hlen
          obtain ⟨b, rfl, g3⟩ := key_ok S3 r3 hk
          rcases r2 with r2 | ⟨j', a, sl, ej, k1, k2, k3, rfl⟩
          · cases r2
          · cases ej
            obtain ⟨a', kv, m1, m2, m3, m4, m5, m6⟩ := S3.sl _ _ hj
            cases k3.inj m1
            have hr : DicR Γ.K ρ3 F3 (putK kv (ns.map Sum.inl) v) (putD kvs ns d) := DicR.put ⟨m5, m6⟩ ns (rv.mono (l2.trans l3) (e2.trans e3))
            have hkl : kv.length = kvs.length := by simpa using congrArg List.length m5
            exact ⟨a, _, rfl, DPut.t m4 g3 (small_ltD (by omega)), h3 ρ3 F3 σ _ (S3.slDict hj k3 m4 hr) (.refl _) (.refl _)⟩
        · exact h3.elim
      · exact h3.elim
    · exact h3.elim
/-- len(d) -/
def rLenR : List V → Hp → VK → Prop := fun xs H Q => ∃ (p : Addr) (kvs : List (List Key × V)), xs = [.ref p] ∧ Rd H p (.dT kvs) ∧ Q (.int ((kvs.length : Nat) : Int)) H
theorem call_len_rd {X : Cx} : CallR X (.builtin "len") rLenR := by
  intro pins s σ H xs us Q I r h
  obtain ⟨p, kvs, rfl, hp, q⟩ := h
  obtain ⟨u, rfl, rx⟩ := vals1 r
  obtain rfl : u = .ref p := rx
  obtain ⟨z, hd, ys, rel, dd⟩ := dt_rd I.hok hp
  have hl : kvs.length = ys.length := Paired.length rel
  refine call_len_dictH hd dd (by rw [← hl]; rw [sizeLine_eq] at z; omega) ?_
  rw [← hl]
  exact ⟨.int ((kvs.length : Nat) : Int), H, I.tok _, ⟨_, rfl⟩, q⟩
theorem dc_lenD : DC Γ (.builtin "len") oLenD := ⟨rLenR, fun X m => call_len_rd, fun B ρ F env st σ H Q vs ds S r h => by
  unfold oLenD at h
  split at h
  · obtain ⟨v, rfl, r1⟩ := r.one
    split at h
    · rename_i kvs hd
      obtain ⟨a, kv, rfl, g1, g2⟩ := dic_ok S r1 hd
      have hkl : kv.length = kvs.length := by simpa using congrArg List.length g2.keys
      refine ⟨a, kv, rfl, g1, ?_⟩
      rw [hkl]
      exact h.ret S (.inl (.int _))
    · exact h.elim
  · exact h.elim⟩
end

/-! a dict is frozen -/
theorem ps_lock1 {X : Cx} {st : Stmt} {t : TS} (h : PS X st t) : PS X st (fun D σ H => t D σ H ∨ ∃ d u, H d = some u ∧ Mut (some u) ∧ ∀ od, t D σ (upd H d (.frz od u))) := by
  refine ⟨fun pins s σ H D I hw => ?_⟩
  rcases hw with hw | ⟨d, u, hd, mu, hw⟩
  · exact h.run pins s σ H D I hw
  · obtain ⟨od, I1⟩ := I.lock hd mu
    exact h.run pins s σ _ D I1 (hw od)
section
variable {Γ : Ga} {K : PySem.W.Frag} {E : WX} {B : Base} {ρ ρ' : List Addr} {F F' H H' : Hp} {env env' : Env} {st st' : Store} {σ σ' : L2.St} {v : V} {d : D} {s : Stmt} {f : FS}
theorem Sim.aloneD {a : Addr} {vs : List (List Key × V)} {o : HO} (S : Sim K B ρ F env st σ H) (A : AloneO K B ρ F H env σ a (.dT vs)) : Sim K B ρ F env st σ (upd H a o) where
  so := S.so.dT A.at_ A.nF A.nρ
  len := S.len
  sl := fun j t hj => (S.sl j t hj).mono (.refl _) (.refl _) fun x hx ht => by
    obtain ⟨y, g1, g2, g3, o, g4⟩ := (S.sl j t hj).own ht
    cases hx.inj g1
    have nx : x ≠ a := fun z => A.nO ⟨j, t, hj, ht, z ▸ hx⟩
    exact ⟨g2, g3, fun o h => by rw [upd_ne nx]; exact h⟩
  apart := S.apart
  ownO := S.ownO
  lg := S.lg
  fs := S.fs
  fnew := S.fnew
  rnew := S.rnew
  keep := fun x o hx q1 q2 => by
    have n : x ≠ a := fun z => by
      rcases A.nB with w | w
      · rw [z, w] at hx; cases hx
      · exact q2 (z ▸ w)
    rw [upd_ne n]; exact S.keep x o hx q1 q2
  ins := S.ins.trans (.dT A.at_)
theorem Sim.frzDic {i : Nat} {kvs : List (List Int × D)} (S : Sim K B ρ F env st σ H) (hi : env[i]? = some (.od kvs)) : ∃ a kv, H a = some (.dT kv) ∧ ∀ od, ∃ F', Sim K B ρ F' (env.set i (.fz (.dic kvs))) st σ (upd H a (.frz od (.dT kv))) ∧ Same F F' := by
  obtain ⟨a, kv, h1, h2, h3, h4, h5, h6⟩ := S.sl _ _ hi
  have hlt : i < env.length := (List.getElem?_eq_some_iff.mp hi).1
  refine ⟨a, kv, h4, fun od => ?_⟩
  have S1 : Sim K B ρ F (env.set i .un) st σ H := S.slots (by simp [S.len]) fun j s hj => by
    by_cases e : j = i
    · subst e
      rw [List.getElem?_set_self hlt] at hj
      cases hj
      exact .inr (.inl rfl)
    · rw [List.getElem?_set_ne (Ne.symm e)] at hj
      exact .inl ⟨hj, rfl⟩
  have nO : ¬ OwnS (env.set i .un) σ a := fun ⟨j, s, q1, q2, q3⟩ => by
    by_cases e : j = i
    · subst e
      rw [List.getElem?_set_self hlt] at q1
      cases q1
      cases q2
    · rw [List.getElem?_set_ne (Ne.symm e)] at q1
      exact e (S.apart j i s _ a q1 hi q2 rfl q3 h1)
  have nB := (S.ownO i _ a hi rfl h1).symm
  have S2 := S1.aloneD (o := .frz od (.dT kv)) ⟨h4, h2, h3, nO, nB, fun _ => HO.noConfusion⟩
  have S3 := S2.freeze (p := a) upd_same h2 h3 nO nB (fun _ => HO.noConfusion)
  refine ⟨_, S3.slots (by simp [S.len]) fun j s hj => ?_, same_new h2⟩
  by_cases e : j = i
  · subst e
    rw [List.getElem?_set_self hlt] at hj
    cases hj
    exact .inr (.inr ⟨_, _, rfl, h1, .dic upd_same h5 (h6.mono (.refl _) (same_new h2))⟩)
  · rw [List.getElem?_set_ne (Ne.symm e)] at hj
    exact .inl ⟨by rw [List.getElem?_set_ne (Ne.symm e)]; exact hj, rfl⟩
def frzD (i : Nat) (f : FS) : FS := fun env st => match env[i]? with
  | some (.od kvs) => f (env.set i (.fz (.dic kvs))) st
  | some (.fz _) => f env st
  | _ => .no
theorem ds_frzD (i : Nat) (h : DS Γ s f) : DS Γ s (frzD i f) := by
  obtain ⟨t, p, q⟩ := h.run
  refine ⟨_, fun X m => ps_lock1 (p X m), fun B ρ F env st σ H D S q' => ?_⟩
  unfold frzD at q'
  split at q'
  · rename_i kvs hi
    obtain ⟨a, kv, h4, hS⟩ := S.frzDic hi
    refine .inr ⟨a, _, h4, True.intro, fun od => ?_⟩
    obtain ⟨F1, S1, e1⟩ := hS od
    exact q B ρ F1 _ st σ _ D S1 (q'.on (.refl _) e1)
  · exact .inl (q B ρ F _ st σ H D S q')
  · exact q'.elim
end

/-! new dicts -/
abbrev FD := Env → Store → Res (List (List Int × D))
def OutD (K : PySem.W.Frag) (E : WX) (B : Base) (ρ : List Addr) (F : Hp) (env : Env) (σ : L2.St) (Q : VK) : Res (List (List Int × D)) → Prop
  | .ok kvs st' => ∀ ρ' F' H' a kv, Sim K B ρ' F' env st' σ H' → Lg ρ ρ' → Same F F' → H' a = some (.dT kv) → F' a = none → a ∉ ρ' → ¬ OwnS env σ a → (B.H a = none ∨ B.O a) → DicR K ρ' F' kv kvs → Q (.ref a) H'
  | .err c fs st' => ∀ ρ' F' H' od, Sim K B ρ' F' env st' σ H' → Lg ρ ρ' → Same F F' → ExD K ρ' F' H' od fs → E (.ref c) od σ H'
  | .no => False
structure DDn (Γ : Ga) (e : Expr) (f : FD) : Prop where
  run : ∃ t, (∀ X, Mt Γ X → PE X e t) ∧ ∀ B ρ F env st σ H Q, Sim Γ.K B ρ F env st σ H → OutD Γ.K Γ.E B ρ F env σ Q (f env st) → t σ H Q
section
variable {Γ : Ga} {a b e : Expr} {fa fb : FE} {pos pos' : Pos} {es : List Expr} {g : FM}
def dsp (fa fb : FE) : FD := fun env st => (fa env st).bind fun k s1 => (fb env s1).bind fun v s2 => match keyD k with
  | some ns => if v.isSl = true then .no else .ok [(ns, v)] s2
  | none => .no
theorem dd_one (ha : DE Γ a fa) (hb : DE Γ b fb) : DDn Γ (.Dict [some a] [b] pos) (dsp fa fb) := by
  obtain ⟨t, p, q⟩ := ha.run
  obtain ⟨u, p1, q1⟩ := hb.run
  refine ⟨tDispT t u, fun X m => pe_dispT (hu_of m.room) (p X m) (p1 X m), fun B ρ F env st σ H Q S h pp hp => ?_⟩
  have S0 : Sim Γ.K B ρ F env st σ (upd H pp (.dT [])) := S.more (same_new hp)
  have A0 : AloneO Γ.K B ρ F (upd H pp (.dT [])) env σ pp (.dT []) := ⟨upd_same, S.noF hp, S.noρ hp, S.noOwn hp, S.back hp, fun _ => HO.noConfusion⟩
  refine q (reb ρ F (upd H pp (.dT [])) env σ) ρ F env st σ _ _ S0.rebase ?_
  unfold dsp at h
  cases hr : fa env st with
  | no => rw [hr] at h; exact h
  | err c fs s => rw [hr] at h; exact fun ρ1 F1 H1 od T l e x => h ρ1 F1 H1 od (S0.trans T) l e x
  | ok kd s1 =>
    rw [hr] at h
    intro ρ1 F1 H1 vk T1 l1 e1 r1
    refine q1 (reb ρ F (upd H pp (.dT [])) env σ) ρ1 F1 env s1 σ H1 _ T1 ?_
    simp only [Res.bind] at h
    cases hs : fb env s1 with
    | no => rw [hs] at h; exact h
    | err c fs s => rw [hs] at h; exact fun ρ2 F2 H2 od T l e x => h ρ2 F2 H2 od (S0.trans T) (l1.trans l) (e1.trans e) x
    | ok vd s2 =>
      rw [hs] at h
      intro ρ2 F2 H2 vv T2 l2 e2 r2
      simp only at h
      split at h
      · rename_i ns hk
        split at h
        · exact h.elim
        · rename_i hsl
          have S2 := S0.trans T2
          have A2 := A0.stay (fun k s h _ => ⟨h, rfl⟩) T2
          obtain ⟨b', rfl, g3⟩ := key_ok T2 (r1.mono l2 e2) hk
          refine ⟨_, vv, rfl, A2.at_, b', _, rfl, g3, ?_⟩
          exact h ρ2 F2 _ pp _ (S2.aloneD A2) (l1.trans l2) (e1.trans e2) upd_same A2.nF A2.nρ A2.nO A2.nB ⟨rfl, .cons (r2.rp (by simpa using hsl)) .nil⟩
      · exact h.elim
def dse : FD := fun _ st => .ok [] st
theorem dd_empty : DDn Γ (.Dict [] [] pos) dse := ⟨tDNewT, fun X m => pe_dnewT, fun B ρ F env st σ H Q S h pp hp =>
  h ρ F _ pp [] (S.more (same_new hp)) (.refl _) (.refl _) upd_same (S.noF hp) (S.noρ hp) (S.noOwn hp) (S.back hp) ⟨rfl, .nil⟩⟩
def consMD (f : FD) (g : FM) : FM := fun env st => (f env st).bind fun kvs s => (g env s).bind fun is s2 => .ok (.newD kvs :: is) s2
theorem dm_newD {fn : FD} (h : DDn Γ a fn) (h' : DM Γ es g) (hs : ∀ env : PySem.Env, starEach (a :: es) env = (false, eval a env) :: starEach es env := by intro _; rfl) : DM Γ (a :: es) (consMD fn g) := by
  obtain ⟨t, p, s⟩ := h.run
  obtain ⟨u, q, r⟩ := h'.run
  refine ⟨_, fun X m => pa_cons (p X m) (q X m) (hs X.env), fun B ρ F env st σ H z Q S W hq => s (reb ρ F H env σ) ρ F env st σ H _ S.rebase ?_⟩
  unfold consMD at hq
  cases hr : fn env st with
  | no => rw [hr] at hq; exact hq
  | err c fs s => rw [hr] at hq; exact fun ρ1 F1 H1 od T l e x => hq ρ1 F1 H1 od (S.trans T) l e x
  | ok kvs s1 =>
    rw [hr] at hq
    intro ρ1 F1 H1 a kv T l1 e1 g1 g2 g3 g4 g5 r1
    have hn : H a = none := g5.resolve_right g4
    have A : AloneO Γ.K B ρ1 F1 H1 env σ a (.dT kv) := ⟨g1, g2, g3, g4, S.back hn, fun _ => HO.noConfusion⟩
    have W1 : Waits Γ.K B ρ1 F1 H1 env σ ((a, .dT kv) :: z) := fun q hq => by
      rcases List.mem_cons.mp hq with e | hq
      · exact e ▸ A
      · exact (W.stay T) q hq
    have na : a ∉ z.map (·.1) := fun hm => by
      obtain ⟨q, hq, e⟩ := List.mem_map.mp hm
      have := (W q hq).at_
      rw [e, hn] at this
      cases this
    refine r B ρ1 F1 env s1 σ H1 ((a, .dT kv) :: z) _ (S.trans T) W1 ?_
    simp only [Res.bind] at hq
    cases hg : g env s1 with
    | no => rw [hg] at hq; exact hq
    | err c fs s => rw [hg] at hq; exact fun ρ2 F2 H2 od S2 l2 e2 => hq ρ2 F2 H2 od S2 (l1.trans l2) (e1.trans e2)
    | ok is s2 =>
      rw [hg] at hq
      exact fun ρ2 F2 H2 vs S2 l2 e2 W2 i2 => hq ρ2 F2 H2 _ S2 (l1.trans l2) (e1.trans e2) (fun q hq => W2 q (List.mem_cons_of_mem _ hq)) (.newD (W2 (a, .dT kv) List.mem_cons_self) r1.keys (r1.vals.mono l2 e2) na i2)
end
end DL
namespace DL
open PySem PySem.Spec PyProof.Rows L2
/-! ### reading the D layer by simp: every step gives closed text to what comes next, no binder is ever entered -/
def Res.go {α β κ : Type} (r : Res α) (k : κ) (ap : κ → α → Store → Res β) : Res β := r.bind (ap k)
def Res.gS {α κ : Type} (r : Res α) (env : Env) (k : κ) (ap : κ → α → Store → RS) : RS := r.toS env (ap k)
section
variable {α β κ : Type} {a : α} {s st : Store} {k : κ} {ap : κ → α → Store → Res β} {aS : κ → α → Store → RS} {env : Env} {c : Addr} {fs : List (Str × D)}
@[simp] theorem go_ok : (Res.ok a s).go k ap = ap k a s := id rfl
@[simp] theorem go_err : (Res.err c fs s : Res α).go k ap = .err c fs s := id rfl
@[simp] theorem go_no : (Res.no : Res α).go k ap = .no := id rfl
@[simp] theorem gS_ok : (Res.ok a s).gS env k aS = aS k a s := id rfl
@[simp] theorem gS_err : (Res.err c fs s : Res α).gS env k aS = .err c fs env s := id rfl
@[simp] theorem gS_no : (Res.no : Res α).gS env k aS = .no := id rfl
def RS.seq (r : RS) (g : FS) : RS := match r with
  | .nx e s => g e s
  | r => r
@[simp] theorem seq_nx {g : FS} {e : Env} : (RS.nx e s).seq g = g e s := id rfl
@[simp] theorem seq_rt {g : FS} {d : D} : (RS.rt d s).seq g = .rt d s := id rfl
@[simp] theorem seq_bk {g : FS} {e : Env} : (RS.bk e s).seq g = .bk e s := id rfl
@[simp] theorem seq_ct {g : FS} {e : Env} : (RS.ct e s).seq g = .ct e s := id rfl
@[simp] theorem seq_err {g : FS} {e : Env} : (RS.err c fs e s).seq g = .err c fs e s := id rfl
@[simp] theorem seq_no {g : FS} : RS.no.seq g = .no := id rfl
@[simp] theorem ev_seqS {f g : FS} : seqS f g env st = (f env st).seq g := by
  unfold seqS RS.seq
  cases f env st <;> rfl
end
section
variable {env : Env} {st s : Store} {f g fa fb fc fo fi fv : FE} {t u : FT} {o o' : O2} {x y d : D} {i : Nat} {A B : FA}
def slotE : Option Slot → Nat → Store → Res D
  | some (.fz d), _, st => .ok d st
  | some (.ol _), i, st => .ok (.sl i) st
  | some (.od _), i, st => .ok (.sl i) st
  | _, _, _ => .no
@[simp] theorem ev_vr : vr i env st = slotE env[i]? i st := by
  unfold vr slotE
  rcases env[i]? with _ | (_ | _ | _ | _) <;> rfl
@[simp] theorem slotE_fz : slotE (some (.fz d)) i st = .ok d st := id rfl
@[simp] theorem slotE_ol {xs : List D} : slotE (some (.ol xs)) i st = .ok (.sl i) st := id rfl
@[simp] theorem ev_cst : cst d env st = .ok d st := id rfl
def bin1 (k : O2 × FE × Env) (x : D) (s : Store) : Res D := (k.2.1 k.2.2 s).go (k.1, k.2.2, x) fun k y s => k.1 k.2.1 s k.2.2 y
def bin2 (k : O2 × Env × D) (y : D) (s : Store) : Res D := k.1 k.2.1 s k.2.2 y
@[simp] theorem ev_bin : bin o fa fb env st = (fa env st).go (o, fb, env) bin1 := id rfl
@[simp] theorem ev_bin1 : bin1 (o, fb, env) x s = (fb env s).go (o, env, x) bin2 := id rfl
@[simp] theorem ev_bin2 : bin2 (o, env, x) y s = o env s x y := id rfl
def tst1 (_ : Unit) (d : D) (s : Store) : Res Bool := match d with
  | .bl b => .ok b s
  | _ => .no
@[simp] theorem ev_tst : tst f env st = (f env st).go () tst1 := by
  unfold tst Res.go tst1; cases f env st <;> rfl
@[simp] theorem ev_tst1 {b : Bool} : tst1 () (.bl b) s = .ok b s := id rfl
def iff1 (k : FT × FT × Env) (b : Bool) (s : Store) : Res Bool := if b = true then k.1 k.2.2 s else k.2.1 k.2.2 s
@[simp] theorem ev_iff1 {b : Bool} : iff1 (t, u, env) b s = if b = true then t env s else u env s := id rfl
def falT : FT := fun _ st => .ok false st
def truT : FT := fun _ st => .ok true st
@[simp] theorem ev_falT : falT env st = .ok false st := id rfl
@[simp] theorem ev_truT : truT env st = .ok true st := id rfl
@[simp] theorem ev_andT : andT t u env st = (t env st).go (u, falT, env) iff1 := id rfl
@[simp] theorem ev_orT : orT t u env st = (t env st).go (truT, u, env) iff1 := id rfl
def not1 (_ : Unit) (b : Bool) (s : Store) : Res Bool := .ok (!b) s
@[simp] theorem ev_notT : notT t env st = (t env st).go () not1 := id rfl
@[simp] theorem ev_not1 {b : Bool} : not1 () b s = .ok (!b) s := id rfl
@[simp] theorem ev_yesT : yesT env st = .ok true st := id rfl
def andV1 (k : FE × Env) (d : D) (s : Store) : Res D := match d with
  | .bl true => k.1 k.2 s
  | .bl false => .ok (.bl false) s
  | _ => .no
@[simp] theorem ev_andV : andV f g env st = (f env st).go (g, env) andV1 := by
  unfold andV Res.go andV1; cases f env st <;> rfl
@[simp] theorem ev_andV1 {b : Bool} : andV1 (g, env) (.bl b) s = if b = true then g env s else .ok (.bl false) s := by cases b <;> rfl
def orV1 (k : FE × Env) (d : D) (s : Store) : Res D := match d with
  | .bl false => k.1 k.2 s
  | .bl true => .ok (.bl true) s
  | _ => .no
@[simp] theorem ev_orV : orV f g env st = (f env st).go (g, env) orV1 := by
  unfold orV Res.go orV1; cases f env st <;> rfl
@[simp] theorem ev_orV1 {b : Bool} : orV1 (g, env) (.bl b) s = if b = true then .ok (.bl true) s else g env s := by cases b <;> rfl
def notV1 (_ : Unit) (d : D) (s : Store) : Res D := match d with
  | .bl b => .ok (.bl (!b)) s
  | _ => .no
@[simp] theorem ev_notV : notV f env st = (f env st).go () notV1 := by
  unfold notV Res.go notV1; cases f env st <;> rfl
@[simp] theorem ev_notV1 {b : Bool} : notV1 () (.bl b) s = .ok (.bl (!b)) s := id rfl
def negV1 (_ : Unit) (d : D) (s : Store) : Res D := match d with
  | .int b => .ok (.int (-b)) s
  | _ => .no
@[simp] theorem ev_negV : negV f env st = (f env st).go () negV1 := by
  unfold negV Res.go negV1; cases f env st <;> rfl
@[simp] theorem ev_negV1 {b : Int} : negV1 () (.int b) s = .ok (.int (-b)) s := id rfl
def ifV1 (k : FE × FE × Env) (b : Bool) (s : Store) : Res D := if b = true then k.1 k.2.2 s else k.2.1 k.2.2 s
@[simp] theorem ev_ifV : ifV t f g env st = (t env st).go (f, g, env) ifV1 := id rfl
@[simp] theorem ev_ifV1 {b : Bool} : ifV1 (f, g, env) b s = if b = true then f env s else g env s := id rfl
def chn1 (k : O2 × O2 × FE × FE × Env) (x : D) (s : Store) : Res D := (k.2.2.1 k.2.2.2.2 s).go (k.1, k.2.1, k.2.2.2.1, k.2.2.2.2, x) fun k y s => (k.1 k.2.2.2.1 s k.2.2.2.2 y).go (k.2.1, k.2.2.1, k.2.2.2.1, y) fun k z s3 => match z with
  | .bl true => (k.2.1 k.2.2.1 s3).bind fun u s4 => k.1 k.2.2.1 s4 k.2.2.2 u
  | .bl false => .ok (.bl false) s3
  | _ => .no
def chn3 (k : O2 × FE × Env × D) (z : D) (s3 : Store) : Res D := match z with
  | .bl true => (k.2.1 k.2.2.1 s3).go (k.1, k.2.2.1, k.2.2.2) bin2
  | .bl false => .ok (.bl false) s3
  | _ => .no
def chn2 (k : O2 × O2 × FE × Env × D) (y : D) (s : Store) : Res D := (k.1 k.2.2.2.1 s k.2.2.2.2 y).go (k.2.1, k.2.2.1, k.2.2.2.1, y) chn3
@[simp] theorem ev_chn : chn o o' fa fb fc env st = (fa env st).go (o, o', fb, fc, env) chn1 := id rfl
@[simp] theorem ev_chn1 : chn1 (o, o', fb, fc, env) x s = (fb env s).go (o, o', fc, env, x) chn2 := id rfl
@[simp] theorem ev_chn2 : chn2 (o, o', fc, env, x) y s = (o env s x y).go (o', fc, env, y) chn3 := id rfl
@[simp] theorem ev_chn3 {b : Bool} : chn3 (o', fc, env, y) (.bl b) s = if b = true then (fc env s).go (o', env, y) bin2 else .ok (.bl false) s := by cases b <;> rfl
@[simp] theorem ev_nilA : nilA env st = .ok [] st := id rfl
def cons1 (k : FA × Env) (d : D) (s : Store) : Res (List D) := (k.1 k.2 s).go d fun d ds s => .ok (d :: ds) s
def cons2 (d : D) (ds : List D) (s : Store) : Res (List D) := .ok (d :: ds) s
@[simp] theorem ev_consA : consA f A env st = (f env st).go (A, env) cons1 := id rfl
@[simp] theorem ev_cons1 : cons1 (A, env) d s = (A env s).go d cons2 := id rfl
@[simp] theorem ev_cons2 {ds : List D} : cons2 d ds s = .ok (d :: ds) s := id rfl
def tup1 (_ : Unit) (ds : List D) (s : Store) : Res D := if ds.length ≤ sizeLine ∧ noSl ds = true then .ok (.tup ds) s else .no
@[simp] theorem ev_tupV : tupV A env st = (A env st).go () tup1 := id rfl
def frz1 (_ : Unit) (ds : List D) (s : Store) : Res D := .ok (.lst ds) s
@[simp] theorem ev_frz {f : FN} : frz f env st = (f env st).go () frz1 := id rfl
@[simp] theorem ev_frz1 {ds : List D} : frz1 () ds s = .ok (.lst ds) s := id rfl
def lst1 (_ : Unit) (ds : List D) (s : Store) : Res (List D) := if ds.length ≤ sizeLine ∧ noSl ds = true then .ok ds s else .no
@[simp] theorem ev_lstN : lstN A env st = (A env st).go () lst1 := id rfl
theorem small_line {n : Nat} (h : n ≤ 100000) : n ≤ sizeLine := Nat.le_trans h (by decide)
theorem ev_tup1 {ds : List D} (h : ds.length ≤ 100000) (hn : noSl ds = true) : tup1 () ds s = .ok (.tup ds) s := if_pos ⟨small_line h, hn⟩
theorem ev_lst1 {ds : List D} (h : ds.length ≤ 100000) (hn : noSl ds = true) : lst1 () ds s = .ok ds s := if_pos ⟨small_line h, hn⟩
@[simp] theorem ev_tup1_0 : tup1 () [] s = .ok (.tup []) s := ev_tup1 (by simp) rfl
@[simp] theorem ev_tup1_1 {a : D} : tup1 () [a] s = if a.isSl = false then .ok (.tup [a]) s else .no := by
  cases h : a.isSl
  · exact ev_tup1 (by simp) (by simp [noSl, h])
  · exact if_neg (by simp [noSl, h])
@[simp] theorem ev_tup1_2 {a b : D} : tup1 () [a, b] s = if a.isSl = false ∧ b.isSl = false then .ok (.tup [a, b]) s else .no := by
  by_cases h : a.isSl = false ∧ b.isSl = false
  · rw [if_pos h]; exact ev_tup1 (by simp) (by simp [noSl, h.1, h.2])
  · rw [if_neg h]; exact if_neg (by simp [noSl]; intro _; simpa using h)
@[simp] theorem ev_tup1_3 {a b c : D} : tup1 () [a, b, c] s = if a.isSl = false ∧ b.isSl = false ∧ c.isSl = false then .ok (.tup [a, b, c]) s else .no := by
  by_cases h : a.isSl = false ∧ b.isSl = false ∧ c.isSl = false
  · rw [if_pos h]; exact ev_tup1 (by simp) (by simp [noSl, h.1, h.2.1, h.2.2])
  · rw [if_neg h]; exact if_neg (by simp [noSl]; intro _; simpa using h)
@[simp] theorem ev_lst1_0 : lst1 () [] s = .ok [] s := ev_lst1 (by simp) rfl
@[simp] theorem ev_lst1_1 {a : D} : lst1 () [a] s = if a.isSl = false then .ok [a] s else .no := by
  cases h : a.isSl
  · exact ev_lst1 (by simp) (by simp [noSl, h])
  · exact if_neg (by simp [noSl, h])
@[simp] theorem ev_lst1_2 {a b : D} : lst1 () [a, b] s = if a.isSl = false ∧ b.isSl = false then .ok [a, b] s else .no := by
  by_cases h : a.isSl = false ∧ b.isSl = false
  · rw [if_pos h]; exact ev_lst1 (by simp) (by simp [noSl, h.1, h.2])
  · rw [if_neg h]; exact if_neg (by simp [noSl]; intro _; simpa using h)
@[simp] theorem ev_lst1_4 {a b c e : D} (h : a.isSl = false) (h2 : b.isSl = false) (h3 : c.isSl = false) (h4 : e.isSl = false) : lst1 () [a, b, c, e] s = .ok [a, b, c, e] s := ev_lst1 (by simp) (by simp [noSl, h, h2, h3, h4])
def cal1 (k : OC × Env) (ds : List D) (s : Store) : Res D := k.1 k.2 s ds
@[simp] theorem ev_cal {c : OC} : cal c A env st = (A env st).go (c, env) cal1 := id rfl
@[simp] theorem ev_cal1 {c : OC} {ds : List D} : cal1 (c, env) ds s = c env s ds := id rfl
def calN1 (k : OCN × Env) (ds : List D) (s : Store) : Res (List D) := k.1 k.2 s ds
@[simp] theorem ev_calN {c : OCN} : calN c A env st = (A env st).go (c, env) calN1 := id rfl
@[simp] theorem ev_calN1 {c : OCN} {ds : List D} : calN1 (c, env) ds s = c env s ds := id rfl
def binN2 (k : O2N × Env × D) (y : D) (s : Store) : Res (List D) := k.1 k.2.1 s k.2.2 y
def binN1 (k : O2N × FE × Env) (x : D) (s : Store) : Res (List D) := (k.2.1 k.2.2 s).go (k.1, k.2.2, x) binN2
@[simp] theorem ev_binN {o : O2N} : binN o fa fb env st = (fa env st).go (o, fb, env) binN1 := id rfl
@[simp] theorem ev_binN1 {o : O2N} : binN1 (o, fb, env) x s = (fb env s).go (o, env, x) binN2 := id rfl
@[simp] theorem ev_binN2 {o : O2N} : binN2 (o, env, x) y s = o env s x y := id rfl
def fld1 (k : Addr × Str) (d : D) (s : Store) : Res D := match (insD k.1 s d).bind (List.lookup k.2) with
  | some x => .ok x s
  | none => .no
@[simp] theorem ev_fldV {C : Addr} {n : Str} : fldV C n f env st = (f env st).go (C, n) fld1 := id rfl
@[simp] theorem ev_fld1 {C : Addr} {n : Str} {d : D} : fld1 (C, n) (.ins C [(n, d)]) s = .ok d s := by
  unfold fld1 insD; simp [List.lookup]
def app1 (k : Nat × Fn) (ds : List D) (s : Store) : Res D := if noSl ds = true ∧ ds.length = k.1 then k.2 ds s else .no
@[simp] theorem ev_app {n : Nat} {φ : Fn} : app n φ A env st = (A env st).go (n, φ) app1 := id rfl
theorem ev_app1' {n : Nat} {φ : Fn} {ds : List D} (h : noSl ds = true) (hl : ds.length = n) : app1 (n, φ) ds s = φ ds s := if_pos ⟨h, hl⟩
@[simp] theorem ev_app1 {n : Nat} {φ : Fn} {ds : List D} : app1 (n, φ) ds s = if noSl ds = true ∧ ds.length = n then φ ds s else .no := id rfl
@[simp] theorem noSl_nil : noSl [] = true := id rfl
@[simp] theorem noSl_cons {ds : List D} : noSl (d :: ds) = (!d.isSl && noSl ds) := by simp [noSl]
@[simp] theorem isSl_int {n : Int} : (D.int n).isSl = false := id rfl
@[simp] theorem isSl_bl {n : Bool} : (D.bl n).isSl = false := id rfl
@[simp] theorem isSl_non : D.non.isSl = false := id rfl
@[simp] theorem isSl_str {n : Str} : (D.str n).isSl = false := id rfl
@[simp] theorem isSl_tup {n : List D} : (D.tup n).isSl = false := id rfl
@[simp] theorem isSl_lst {n : List D} : (D.lst n).isSl = false := id rfl
@[simp] theorem isSl_scr {n : List D} : (D.scr n).isSl = false := id rfl
@[simp] theorem isSl_own {n : Nat} : (D.own n).isSl = false := id rfl
@[simp] theorem isSl_sl {n : Nat} : (D.sl n).isSl = true := id rfl
@[simp] theorem isSl_ins {C : Addr} {fs : List (Str × D)} : (D.ins C fs).isSl = false := id rfl
@[simp] theorem isSl_ty {n : String} : (D.ty n).isSl = false := id rfl
@[simp] theorem isSl_cls {n : Addr} : (D.cls n).isSl = false := id rfl
/-! statements -/
@[simp] theorem ev_nxS : nxS env st = .nx env st := id rfl
@[simp] theorem ev_noS : noS env st = .no := id rfl
@[simp] theorem ev_retN : retN env st = .rt .non st := id rfl
@[simp] theorem ev_bkS : bkS env st = .bk env st := id rfl
@[simp] theorem ev_ctS : ctS env st = .ct env st := id rfl
def ret1 (_ : Unit) (d : D) (s : Store) : RS := if d.isSl = true then .no else .rt d s
@[simp] theorem ev_retS : retS f env st = (f env st).gS env () ret1 := id rfl
@[simp] theorem ev_ret1 : ret1 () d s = if d.isSl = true then .no else .rt d s := id rfl
def drp1 (k : Env) (_ : D) (s : Store) : RS := .nx k s
@[simp] theorem ev_drpS : drpS f env st = (f env st).gS env env drp1 := id rfl
@[simp] theorem ev_drp1 : drp1 env d s = .nx env s := id rfl
def ifS1 (k : FS × FS × Env) (b : Bool) (s : Store) : RS := if b = true then k.1 k.2.2 s else k.2.1 k.2.2 s
@[simp] theorem ev_ifS {p q : FS} : ifS t p q env st = (t env st).gS env (p, q, env) ifS1 := id rfl
@[simp] theorem ev_ifS1 {p q : FS} {b : Bool} : ifS1 (p, q, env) b s = if b = true then p env s else q env s := id rfl
def setS1 (k : Nat × Env) (d : D) (s : Store) : RS := if d.isSl = true then .no else .nx (k.2.set k.1 (.fz d)) s
@[simp] theorem ev_setS : setS i f env st = (f env st).gS env (i, env) setS1 := id rfl
@[simp] theorem ev_setS1 : setS1 (i, env) d s = if d.isSl = true then .no else .nx (env.set i (.fz d)) s := id rfl
def ownS1 (k : Nat × Env) (ds : List D) (s : Store) : RS := .nx (k.2.set k.1 (.ol ds)) s
@[simp] theorem ev_ownS {f : FN} : ownS i f env st = (f env st).gS env (i, env) ownS1 := id rfl
@[simp] theorem ev_ownS1 {ds : List D} : ownS1 (i, env) ds s = .nx (env.set i (.ol ds)) s := id rfl
def asg1 (k : FG × Env) (d : D) (s : Store) : RS := if d.isSl = true then .no else match k.1 d k.2 s with
  | .nx e s => .nx e s
  | .err c fs e s => .err c fs e s
  | _ => .no
@[simp] theorem ev_asgS {g : FG} : asgS f g env st = (f env st).gS env (g, env) asg1 := id rfl
def RS.nxO (r : RS) : RS := match r with
  | .nx e s => .nx e s
  | .err c fs e s => .err c fs e s
  | _ => .no
@[simp] theorem nxO_nx {e : Env} : (RS.nx e s).nxO = .nx e s := id rfl
@[simp] theorem ev_asg1 {g : FG} : asg1 (g, env) d s = if d.isSl = true then .no else (g d env s).nxO := id rfl
def frzK (k : Nat × FS × Env) : Option Slot → Store → RS
  | some (.ol xs), st => k.2.1 (k.2.2.set k.1 (.fz (.lst xs))) st
  | _, _ => .no
@[simp] theorem ev_frzS {p : FS} : frzS i p env st = frzK (i, p, env) env[i]? st := by
  unfold frzS frzK
  rcases env[i]? with _ | (_ | _ | _ | _) <;> rfl
@[simp] theorem ev_frzK {p : FS} {xs : List D} : frzK (i, p, env) (some (.ol xs)) st = p (env.set i (.fz (.lst xs))) st := id rfl
def thF (i : Nat) (e : Env) : Option Slot → Store → RS
  | some (.ol xs), s => .nx (e.set i (.fz (.lst xs))) s
  | _, _ => .no
def thenK (i : Nat) : FS := fun e s => thF i e e[i]? s
@[simp] theorem ev_thenFrz {p : FS} : thenFrz i p env st = (p env st).seq (thenK i) := by
  unfold thenFrz RS.seq thenK thF
  cases p env st with
  | nx e s => simp only; generalize e[i]? = q; rcases q with _ | (_ | _ | _ | _) <;> rfl
  | _ => rfl
@[simp] theorem ev_thenK : thenK i env st = thF i env env[i]? st := id rfl
@[simp] theorem ev_thF {xs : List D} : thF i env (some (.ol xs)) s = .nx (env.set i (.fz (.lst xs))) s := id rfl
def for1 (k : FG × FS × Env) (ds : List D) (s : Store) : RS := forL k.1 k.2.1 ds k.2.2 s
@[simp] theorem ev_forS {it : FI} {g : FG} {b : FS} : forS it g b env st = (it env st).gS env (g, b, env) for1 := id rfl
@[simp] theorem ev_for1 {g : FG} {b : FS} {ds : List D} : for1 (g, b, env) ds s = forL g b ds env s := id rfl
@[simp] theorem ev_for_nil {g : FG} {b : FS} : forL g b [] env st = .nx env st := id rfl
def fin (r : RS) : Res D := match r with
  | .rt d s => .ok d s
  | .nx _ s => .ok .non s
  | .err c fs _ s => .err c fs s
  | _ => .no
@[simp] theorem fin_rt : fin (.rt d s) = .ok d s := id rfl
@[simp] theorem fin_nx : fin (.nx env s) = .ok .non s := id rfl
@[simp] theorem fin_err {c : Addr} {fs : List (Str × D)} : fin (.err c fs env s) = .err c fs s := id rfl
def unN : Nat → Env
  | 0 => []
  | n + 1 => .un :: unN n
theorem unN_eq : ∀ n, List.replicate n Slot.un = unN n
  | 0 => rfl
  | n + 1 => by rw [List.replicate_succ, unN_eq n]; rfl
@[simp] theorem unN_0 : unN 0 = [] := id rfl
@[simp] theorem unN_s {n : Nat} : unN (n + 1) = .un :: unN n := id rfl
@[simp] theorem ev_runF {N : Nat} {b : FS} {ds : List D} : runF N b ds st = fin (b (ds.map .fz ++ unN (N - ds.length)) st) := by
  rw [← unN_eq]; rfl
/-! operators on plain values -/
@[simp] theorem ev_oSub {i j : Int} : oSub env st (.int i) (.int j) = .ok (.int (i - j)) st := id rfl
@[simp] theorem ev_oAdd {i j : Int} : oAdd env st (.int i) (.int j) = .ok (.int (i + j)) st := id rfl
@[simp] theorem ev_oMod {i j : Int} : oMod env st (.int i) (.int j) = if j ≠ 0 then .ok (.int (i.fmod j)) st else .no := by
  show (if decide (j ≠ 0) = true then _ else _) = _
  by_cases h : j = 0 <;> simp [h]
@[simp] theorem ev_oDiv {i j : Int} : oDiv env st (.int i) (.int j) = if j ≠ 0 ∧ j.natAbs.log2 < 9000 then .ok (.int (i.fdiv j)) st else .no := by
  show (if decide _ = true then _ else _) = _
  by_cases h : j ≠ 0 ∧ j.natAbs.log2 < 9000
  · rw [if_pos (decide_eq_true h), if_pos h]
  · rw [if_neg (by simpa using h), if_neg h]
@[simp] theorem ev_oMul {i j : Int} : oMul env st (.int i) (.int j) = if mulOk i j = true then .ok (.int (i * j)) st else .no := id rfl
@[simp] theorem ev_oPow {i j : Int} : oPow env st (.int i) (.int j) = if powOk i j = true then .ok (.int (i ^ j.toNat)) st else .no := id rfl
@[simp] theorem ev_cmpI {c : Int → Int → Bool} {z : Nat → Nat → Bool} {i j : Int} : oCmpA c z env st (.int i) (.int j) = .ok (.bl (c i j)) st := id rfl
@[simp] theorem seqL_int {n : Int} : seqL env st (.int n) = none := id rfl
theorem shaped_int (i : Int) : SeqAt.shaped (.int i) = true := by simp [SeqAt.shaped, PyData.canLay0, PyData.depth]
@[simp] theorem ev_eqI {i j : Int} : oEq env st (.int i) (.int j) = .ok (.bl (decide (i = j))) st := by
  simp only [oEq, oNe, cmpD, pyT, seqL, D.py, shaped_int, and_self, if_true]
  by_cases h : i = j <;> simp [PyData.eqv, h]
@[simp] theorem ev_neI {i j : Int} : oNe env st (.int i) (.int j) = .ok (.bl (!decide (i = j))) st := by
  simp only [oEq, oNe, cmpD, pyT, seqL, D.py, shaped_int, and_self, if_true]
  by_cases h : i = j <;> simp [PyData.eqv, h]
@[simp] theorem ev_isiI {n : Int} : oIsi env st [.int n, .ty "int"] = .ok (.bl true) st := id rfl
@[simp] theorem ev_isiB {n : Int} : oIsi env st [.int n, .ty "bool"] = .ok (.bl false) st := id rfl
@[simp] theorem ev_isiT {n : Int} : oIsi env st [.int n, .ty "tuple"] = .ok (.bl false) st := id rfl
@[simp] theorem ev_isiTT {xs : List D} : oIsi env st [.tup xs, .ty "tuple"] = .ok (.bl true) st := id rfl
@[simp] theorem ev_isiTL {xs : List D} : oIsi env st [.tup xs, .ty "list"] = .ok (.bl false) st := id rfl
@[simp] theorem ev_lenT {xs : List D} : oLen env st [.tup xs] = .ok (.int xs.length) st := id rfl
@[simp] theorem ev_lenL {xs : List D} : oLen env st [.lst xs] = .ok (.int xs.length) st := id rfl
@[simp] theorem ev_int {n : Int} : oInt env st [.int n] = .ok (.int n) st := id rfl
@[simp] theorem ev_tupT {xs : List D} : oTuple env st [.tup xs] = .ok (.tup xs) st := id rfl
@[simp] theorem ev_tupL {xs : List D} : oTuple env st [.lst xs] = if noSl xs = true then .ok (.tup xs) st else .no := id rfl
@[simp] theorem ev_listT {xs : List D} : oList env st [.tup xs] = .ok xs st := id rfl
@[simp] theorem ev_listL {xs : List D} : oList env st [.lst xs] = .ok xs st := id rfl
@[simp] theorem ev_max {i j : Int} : oMax2 env st [.int i, .int j] = .ok (.int (if j > i then j else i)) st := id rfl
@[simp] theorem ev_min {i j : Int} : oMin2 env st [.int i, .int j] = .ok (.int (if j < i then j else i)) st := id rfl
def ixK (d : Option D) (st : Store) : Res D := match d with
  | some d => .ok d st
  | none => .no
@[simp] theorem ixK_some : ixK (some d) st = .ok d st := id rfl
@[simp] theorem ev_ixT {xs : List D} {n : Int} : oIx env st (.tup xs) (.int n) = ixK (atD xs n) st := id rfl
@[simp] theorem ev_ixL {xs : List D} {n : Int} : oIx env st (.lst xs) (.int n) = ixK (atD xs n) st := id rfl
end
/-! targets -/
section
variable {env : Env} {st s : Store} {d : D} {i : Nat} {g : FGn} {r : FGns}
def opS (o : Option Env) (st : Store) : RS := match o with
  | some e => .nx e st
  | none => .no
@[simp] theorem opS_some : opS (some env) st = .nx env st := id rfl
@[simp] theorem ev_ofN : ofN g d env st = opS (g d env) st := by
  unfold ofN opS; cases g d env <;> rfl
@[simp] theorem ev_nmN : nmN i d env = some (env.set i (.fz d)) := id rfl
@[simp] theorem ev_nilN : nilN [] env = some env := id rfl
@[simp] theorem ev_consN {ds : List D} : consN g r (d :: ds) env = (g d env).bind (r ds) := id rfl
@[simp] theorem ev_tupN {n : Nat} {ds : List D} : tupN n r (.tup ds) env = if ds.length = n then r ds env else none := id rfl
end
end DL
namespace DL
open PySem PySem.Spec PyProof.Rows L2
section
variable {env : Env} {st s : Store} {f fo fi fe : FE} {t : FT} {d : D} {i : Nat} {g : FGn} {el : FE} {it : FI} {vs : List Nat} {A : FA}
/-! ### loops -/
theorem forL_cons {tg : FG} {b : FS} {r : List D} {e2 : Env} {s2 : Store} (h : (tg d env st).seq b = .nx e2 s2) : forL tg b (d :: r) env st = forL tg b r e2 s2 := by
  rw [forL]
  cases h1 : tg d env st with
  | nx e1 s1 => rw [h1] at h; simp only; rw [show b e1 s1 = .nx e2 s2 from h]
  | _ => rw [h1] at h; cases h
theorem forL_ct {tg : FG} {b : FS} {r : List D} {e2 : Env} {s2 : Store} (h : (tg d env st).seq b = .ct e2 s2) (hn : ∀ e s, tg d env st ≠ .ct e s) : forL tg b (d :: r) env st = forL tg b r e2 s2 := by
  rw [forL]
  cases h1 : tg d env st with
  | nx e1 s1 => rw [h1] at h; simp only; rw [show b e1 s1 = .ct e2 s2 from h]
  | ct _ _ => exact absurd h1 (hn _ _)
  | _ => rw [h1] at h; cases h
/-- a loop over what a list gives, item by item -/
theorem forL_map {α : Type} {tg : FG} {b : FS} {F : α → D} (I : List α → Env → Store → Prop) (step : ∀ a r env st, I (a :: r) env st → ∃ e2 s2, (tg (F a) env st).seq b = .nx e2 s2 ∧ I r e2 s2) :
    ∀ as env st, I as env st → ∃ e s, forL tg b (as.map F) env st = .nx e s ∧ I [] e s
  | [], env, st, h => ⟨env, st, rfl, h⟩
  | a :: r, env, st, h => by
    obtain ⟨e2, s2, h2, h3⟩ := step a r env st h
    rw [List.map_cons, forL_cons h2]
    exact forL_map I step r e2 s2 h3
/-- .. told by the place -/
theorem forL_at {α : Type} {tg : FG} {b : FS} {F : α → D} (I : Nat → Env → Store → Prop) {as : List α} (step : ∀ k (hk : k < as.length) env st, I k env st → ∃ e2 s2, (tg (F as[k]) env st).seq b = .nx e2 s2 ∧ I (k + 1) e2 s2) (h0 : I 0 env st) :
    ∃ e s, forL tg b (as.map F) env st = .nx e s ∧ I as.length e s := by
  obtain ⟨e, s, h1, k, hl, hk, hI⟩ := forL_map (tg := tg) (b := b) (F := F) (fun l e s => ∃ k, l = as.drop k ∧ k ≤ as.length ∧ I k e s) (fun a r e s ⟨k, hl, hk, h⟩ => by
    have hkn : k < as.length := by
      have := congrArg List.length hl
      simp at this; omega
    rw [List.drop_eq_getElem_cons hkn] at hl
    obtain ⟨rfl, rfl⟩ := List.cons.inj hl
    obtain ⟨e2, s2, q2, q3⟩ := step k hkn e s h
    exact ⟨e2, s2, q2, k + 1, rfl, hkn, q3⟩) as env st ⟨0, rfl, Nat.zero_le _, h0⟩
  have : k = as.length := by
    have := congrArg List.length hl
    simp at this; omega
  subst this
  exact ⟨e, s, h1, hI⟩
theorem enumFrom_map {α : Type} {F : α → D} : ∀ (as : List α) (k : Nat), enumFrom k (as.map F) = (as.zipIdx k).map fun p => .tup [.int p.2, F p.1]
  | [], _ => rfl
  | a :: r, k => by simp [enumFrom, enumFrom_map r (k + 1)]
theorem forL_enum {α : Type} {tg : FG} {b : FS} {F : α → D} (I : Nat → Env → Store → Prop) {as : List α} (step : ∀ k (hk : k < as.length) env st, I k env st → ∃ e2 s2, (tg (.tup [.int k, F as[k]]) env st).seq b = .nx e2 s2 ∧ I (k + 1) e2 s2) (h0 : I 0 env st) :
    ∃ e s, forL tg b (enumFrom 0 (as.map F)) env st = .nx e s ∧ I as.length e s := by
  rw [enumFrom_map]
  have hl : as.zipIdx.length = as.length := by simp
  obtain ⟨e, s, h1, h2⟩ := forL_at (tg := tg) (b := b) (F := fun p : α × Nat => .tup [.int p.2, F p.1]) (as := as.zipIdx 0) I (fun k hk env st h => by
    have hk' : k < as.length := by simpa using hk
    have e : as.zipIdx[k] = (as[k], k) := by simp
    simp only [e]
    exact step k hk' env st h) h0
  exact ⟨e, s, h1, by rw [← hl]; exact h2⟩
theorem forL_rng {tg : FG} {b : FS} {lo : Int} {n : Nat} (I : Nat → Env → Store → Prop) (step : ∀ i env st, i < n → I i env st → ∃ e2 s2, (tg (.int (lo + (i : Int))) env st).seq b = .nx e2 s2 ∧ I (i + 1) e2 s2) (h0 : I 0 env st) :
    ∃ e s, forL tg b (rngD lo n) env st = .nx e s ∧ I n e s := by
  obtain ⟨e, s, h1, h2⟩ := forL_at (tg := tg) (b := b) (F := fun (i : Nat) => D.int (lo + (i : Int))) (as := List.range n) I (fun k hk env st h => by
    have hk' : k < n := by simpa using hk
    have e : (List.range n)[k] = k := by simp
    rw [e]
    exact step k env st hk' h) h0
  exact ⟨e, s, h1, by simpa using h2⟩
theorem whileS_step {test : FT} {b : FS} {e1 : Env} {s1 s2 : Store} (h1 : test env st = .ok true s1) (h2 : b env s1 = .nx e1 s2) (h3 : (whileS test b e1 s2).isNo = false) : whileS test b env st = whileS test b e1 s2 := by
  have hx : ∃ n, (whileN test b n e1 s2).isNo = false := by
    by_cases h : ∃ n, (whileN test b n e1 s2).isNo = false
    · exact h
    · unfold whileS at h3; rw [dif_neg h] at h3; cases h3
  obtain ⟨n, hn⟩ := hx
  have e : whileN test b (n + 1) env st = whileN test b n e1 s2 := by
    conv => lhs; unfold whileN
    rw [h1]; simp only [Res.toS, if_true]; rw [h2]
  rw [whileS_eq n hn, whileS_eq (n + 1) (by rw [e]; exact hn), e]
theorem whileS_end {test : FT} {b : FS} {s1 : Store} (h1 : test env st = .ok false s1) : whileS test b env st = .nx env s1 := by
  have e : whileN test b 1 env st = .nx env s1 := by
    conv => lhs; unfold whileN
    rw [h1]; rfl
  rw [whileS_eq 1 (by rw [e]; rfl), e]
/-- a while by a measure -/
theorem whileS_inv {test : FT} {b : FS} (I : Nat → Env → Store → Prop) (step : ∀ m env st, I m env st → (∃ s1, test env st = .ok false s1 ∧ I 0 env s1) ∨ ∃ s1 e2 s2 m', test env st = .ok true s1 ∧ b env s1 = .nx e2 s2 ∧ m' < m ∧ I m' e2 s2) :
    ∀ (m : Nat) env st, I m env st → ∃ e s s0, whileS test b env st = .nx e s ∧ I 0 e s ∧ test e s0 = .ok false s := by
  intro m
  induction m using Nat.strongRecOn with
  | ind m ih =>
    intro env st h
    rcases step m env st h with ⟨s1, h1, h2⟩ | ⟨s1, e2, s2, m', h1, h2, h3, h4⟩
    · exact ⟨env, s1, st, whileS_end h1, h2, h1⟩
    · obtain ⟨e, s, s0, q1, q2, q3⟩ := ih m' h3 e2 s2 h4
      exact ⟨e, s, s0, by rw [whileS_step h1 h2 (by rw [q1]; rfl), q1], q2, q3⟩
/-! ### comprehensions -/
def lc1 (k : FGn × FT × FE × List Nat × Env) (ds : List D) (s : Store) : Res (List D) := if ds.length ≤ sizeLine ∧ notOwned k.2.2.2.2 k.2.2.2.1 = true then lcL k.1 k.2.1 k.2.2.1 (wipeE k.2.2.2.2 k.2.2.2.1) ds s else .no
@[simp] theorem ev_lcN : lcN it g t el vs env st = (it env st).go (g, t, el, vs, env) lc1 := id rfl
theorem ev_lc1 {ds : List D} (h : ds.length ≤ 100000) (hn : notOwned env vs = true) : lc1 (g, t, el, vs, env) ds s = lcL g t el (wipeE env vs) ds s := if_pos ⟨small_line h, hn⟩
@[simp] theorem wipeE_nil : wipeE env [] = env := id rfl
@[simp] theorem wipeE_cons {v : Nat} : wipeE env (v :: vs) = (wipeE env vs).set v .un := id rfl
def ownedO : Option Slot → Bool
  | some s => !s.owned
  | none => true
@[simp] theorem notOwned_nil : notOwned env [] = true := id rfl
@[simp] theorem notOwned_cons {v : Nat} : notOwned env (v :: vs) = (ownedO env[v]? && notOwned env vs) := by
  show (_ && _) = _
  congr 1
@[simp] theorem ownedO_un : ownedO (some .un) = true := id rfl
@[simp] theorem ownedO_fz : ownedO (some (.fz d)) = true := id rfl
theorem lcL_map {α : Type} {F : α → D} {G : α → D} {env0 : Env} : ∀ (as : List α), (∀ a ∈ as, ∃ e, g (F a) env0 = some e ∧ t e st = .ok true st ∧ el e st = .ok (G a) st ∧ (G a).isSl = false) → lcL g t el env0 (as.map F) st = .ok (as.map G) st
  | [], _ => rfl
  | a :: r, h => by
    obtain ⟨e, h1, h2, h3, h4⟩ := h a List.mem_cons_self
    rw [List.map_cons, lcL, h1]
    simp only
    rw [h2]
    simp only [noE, Res.bind, if_true]
    rw [h3]
    simp only [h4, Bool.false_eq_true, if_false]
    rw [lcL_map r fun x hx => h x (List.mem_cons_of_mem _ hx)]
    rfl
theorem lcL_inv {α : Type} {F : α → D} {env0 : Env} (I : List α → List D → Store → Prop)
    (step : ∀ a r ys st, I (a :: r) ys st → ∃ e, g (F a) env0 = some e ∧ ((∃ s1, t e st = .ok false s1 ∧ I r ys s1) ∨ ∃ s1 y s2, t e st = .ok true s1 ∧ el e s1 = .ok y s2 ∧ y.isSl = false ∧ I r (ys ++ [y]) s2)) :
    ∀ (as : List α) (ys : List D) (st : Store), I as ys st → ∃ zs s, lcL g t el env0 (as.map F) st = .ok zs s ∧ I [] (ys ++ zs) s
  | [], ys, st, h => ⟨[], st, rfl, by simpa using h⟩
  | a :: r, ys, st, h => by
    obtain ⟨e, h1, h2⟩ := step a r ys st h
    rcases h2 with ⟨s1, h2, h3⟩ | ⟨s1, y, s2, h2, h3, h4, h5⟩
    · obtain ⟨zs, s, q1, q2⟩ := lcL_inv I step r ys s1 h3
      refine ⟨zs, s, ?_, q2⟩
      rw [List.map_cons, lcL, h1]
      simp only
      rw [h2]
      simp only [noE, Res.bind, Bool.false_eq_true, if_false]
      exact q1
    · obtain ⟨zs, s, q1, q2⟩ := lcL_inv I step r (ys ++ [y]) s2 h5
      refine ⟨y :: zs, s, ?_, by simpa using q2⟩
      rw [List.map_cons, lcL, h1]
      simp only
      rw [h2]
      simp only [noE, Res.bind, if_true]
      rw [h3]
      simp only [h4, Bool.false_eq_true, if_false]
      rw [q1]
/-! ### what is walked -/
def itA1 (_ : Unit) (d : D) (s : Store) : Res (List D) := match d with
  | .tup ds => .ok ds s
  | .lst ds => .ok ds s
  | .scr ds => .ok ds s
  | .mtp ds => .ok ds s
  | _ => .no
@[simp] theorem ev_itA : itA f env st = (f env st).go () itA1 := by
  unfold itA Res.go itA1; cases f env st <;> rfl
@[simp] theorem ev_itA1t {ds : List D} : itA1 () (.tup ds) s = .ok ds s := id rfl
@[simp] theorem ev_itA1l {ds : List D} : itA1 () (.lst ds) s = .ok ds s := id rfl
@[simp] theorem ev_itA1m {ds : List D} : itA1 () (.mtp ds) s = .ok ds s := id rfl
@[simp] theorem ev_itA1s {ds : List D} : itA1 () (.scr ds) s = .ok ds s := id rfl
def en1 (_ : Unit) (ds : List D) (s : Store) : Res (List D) := .ok (enumFrom 0 ds) s
@[simp] theorem ev_itEn : itEn f env st = (itA f env st).go () en1 := id rfl
@[simp] theorem ev_en1 {ds : List D} : en1 () ds s = .ok (enumFrom 0 ds) s := id rfl
def zp2 (d : D) (d' : D) (s' : Store) : Res (List D) := match d, d' with
  | .tup xs, .tup ys => .ok (zip2 xs ys) s'
  | .lst xs, .lst ys => .ok (zip2 xs ys) s'
  | _, _ => .no
def zp1 (k : FE × Env) (d : D) (s : Store) : Res (List D) := (k.1 k.2 s).go d zp2
@[simp] theorem ev_itZip : itZip f fo env st = (f env st).go (fo, env) zp1 := by
  show (f env st).bind _ = (f env st).bind _
  congr 1
@[simp] theorem ev_zp1 : zp1 (fo, env) d s = (fo env s).go d zp2 := id rfl
@[simp] theorem ev_zp2 {xs ys : List D} : zp2 (.tup xs) (.tup ys) s = .ok (zip2 xs ys) s := id rfl
def r1g (_ : Unit) (d : D) (s : Store) : Res (List D) := match d with
  | .int j => if rngOk j = true then .ok (rngD 0 j.toNat) s else .no
  | _ => .no
@[simp] theorem ev_itR1 : itR1 f env st = (f env st).go () r1g := by
  unfold itR1 Res.go r1g; cases f env st <;> rfl
@[simp] theorem ev_r1 {j : Int} : r1g () (.int j) s = if rngOk j = true then .ok (rngD 0 j.toNat) s else .no := by rw [r1g]
def r2b (d d' : D) (s' : Store) : Res (List D) := match d, d' with
  | .int i, .int j => if rngOk i = true ∧ rngOk j = true then .ok (rngD i (j - i).toNat) s' else .no
  | _, _ => .no
def r2 (k : FE × Env) (d : D) (s : Store) : Res (List D) := (k.1 k.2 s).go d r2b
@[simp] theorem ev_itR2 : itR2 f fo env st = (f env st).go (fo, env) r2 := by
  show (f env st).bind _ = (f env st).bind _
  congr 1
@[simp] theorem ev_r2 : r2 (fo, env) d s = (fo env s).go d r2b := id rfl
@[simp] theorem ev_r2b {i j : Int} : r2b (.int i) (.int j) s = if rngOk i = true ∧ rngOk j = true then .ok (rngD i (j - i).toNat) s else .no := by rw [r2b]
theorem rng_ok {j : Int} (h : 0 ≤ j) (h2 : j < 2 ^ 62) : rngOk j = true := decide_eq_true ⟨by omega, h2⟩
/-! ### what is changed -/
def putL (ys : Option (List D)) (i : Nat) (env : Env) (st : Store) : RS := match ys with
  | some ys => .nx (env.set i (.ol ys)) st
  | none => .no
@[simp] theorem putL_some {ys : List D} : putL (some ys) i env st = .nx (env.set i (.ol ys)) st := id rfl
def mutK (k : (List D → Option (List D)) × Nat × Env) : Option Slot → Store → RS
  | some (.ol xs), st => putL (k.1 xs) k.2.1 k.2.2 st
  | _, _ => .no
@[simp] theorem ev_mutL_sl {h : List D → Option (List D)} : mutL h (.sl i) env st = mutK (h, i, env) env[i]? st := by
  unfold mutL mutK putL
  simp only
  rcases env[i]? with _ | (_ | _ | xs | _) <;> try rfl
@[simp] theorem ev_mutK {h : List D → Option (List D)} {xs : List D} : mutK (h, i, env) (some (.ol xs)) st = putL (h xs) i env st := id rfl
def sub2 (k : D × Env × D) (x : D) (s : Store) : RS := match x with
  | .int n => mutL (setAt n k.1) k.2.2 k.2.1 s
  | _ => .no
def sub1 (k : FE × D × Env) (o : D) (s : Store) : RS := (k.1 k.2.2 s).gS k.2.2 (k.2.1, k.2.2, o) sub2
@[simp] theorem ev_subG : subG fo fi d env st = (fo env st).gS env (fi, d, env) sub1 := by
  show (fo env st).toS env _ = (fo env st).toS env _
  congr 1
@[simp] theorem ev_sub1 {o : D} : sub1 (fi, d, env) o s = (fi env s).gS env (d, env, o) sub2 := id rfl
@[simp] theorem ev_sub2 {o : D} {n : Int} : sub2 (d, env, o) (.int n) s = mutL (setAt n d) o env s := id rfl
def app2 (k : D × Env) (d : D) (s : Store) : RS := if d.isSl = true then .no else mutL (fun xs => if xs.length < sizeLine then some (xs ++ [d]) else none) k.1 k.2 s
def apK (k : FE × D × Env) : Option (List D) → Store → RS
  | some _, s => (k.1 k.2.2 s).gS k.2.2 (k.2.1, k.2.2) app2
  | none, _ => .no
def ap1 (k : FE × Env) (o : D) (s : Store) : RS := apK (k.1, o, k.2) (seqL k.2 s o) s
@[simp] theorem ev_appS : appS fo fe env st = (fo env st).gS env (fe, env) ap1 := by
  show (fo env st).toS env _ = (fo env st).toS env _
  congr 1
  funext o s
  show _ = apK (fe, o, env) (seqL env s o) s
  cases seqL env s o <;> rfl
@[simp] theorem ev_ap1 {o : D} : ap1 (fe, env) o s = apK (fe, o, env) (seqL env s o) s := id rfl
@[simp] theorem ev_apK {o : D} {xs : List D} : apK (fe, o, env) (some xs) s = (fe env s).gS env (o, env) app2 := id rfl
theorem small_lt {n : Nat} (h : n < 100000) : n < sizeLine := Nat.lt_of_lt_of_le h (by decide)
theorem ev_app2' {xs : List D} (h : d.isSl = false) (hl : xs.length < 100000) (hi : env[i]? = some (.ol xs)) : app2 (.sl i, env) d s = .nx (env.set i (.ol (xs ++ [d]))) s := by
  unfold app2
  rw [if_neg (by rw [h]; decide)]
  show mutL _ (.sl i) env s = _
  unfold mutL
  simp only [hi, if_pos (small_lt hl)]
def sqK : Option Slot → Option (List D)
  | some (.ol xs) => some xs
  | _ => none
@[simp] theorem ev_seqL_sl : seqL env st (.sl i) = sqK env[i]? := by
  unfold sqK
  show (match env[i]? with | some (.ol xs) => some xs | _ => none) = _
  rcases env[i]? with _ | (_ | _ | _ | _) <;> rfl
@[simp] theorem sqK_ol {xs : List D} : sqK (some (.ol xs)) = some xs := id rfl
@[simp] theorem seqL_lst {xs : List D} : seqL env st (.lst xs) = some xs := id rfl
@[simp] theorem seqL_tup {xs : List D} : seqL env st (.tup xs) = none := id rfl
def ixO (k : Int) : Option (List D) → Store → Res D
  | some xs, st => ixK (atD xs k) st
  | none, _ => .no
@[simp] theorem ev_ixS {n : Int} : oIx env st (.sl i) (.int n) = ixO n (sqK env[i]?) st := by
  show (match seqL env st (.sl i) with | some xs => _ | none => _) = _
  rw [ev_seqL_sl]
  cases sqK env[i]? with
  | none => rfl
  | some xs => show (match atD xs n with | some d => _ | none => _) = _; unfold ixO ixK; rfl
@[simp] theorem ev_ixO {xs : List D} {n : Int} : ixO n (some xs) st = ixK (atD xs n) st := id rfl
def tupO : Option (List D) → Store → Res D
  | some xs, st => if noSl xs = true then .ok (.tup xs) st else .no
  | none, _ => .no
@[simp] theorem ev_tupS : oTuple env st [.sl i] = tupO (sqK env[i]?) st := by
  show (match seqL env st (.sl i) with | some xs => _ | none => _) = _
  rw [ev_seqL_sl]
  cases sqK env[i]? <;> rfl
@[simp] theorem ev_tupO {xs : List D} : tupO (some xs) st = if noSl xs = true then .ok (.tup xs) st else .no := id rfl
def lenO : Option (List D) → Store → Res D
  | some xs, st => .ok (.int xs.length) st
  | none, _ => .no
@[simp] theorem ev_lenS : oLen env st [.sl i] = lenO (sqK env[i]?) st := by
  show (match seqL env st (.sl i) with | some xs => _ | none => _) = _
  rw [ev_seqL_sl]
  cases sqK env[i]? <;> rfl
@[simp] theorem ev_lenO {xs : List D} : lenO (some xs) st = .ok (.int xs.length) st := id rfl
/-! an owned list's item changed: x[i] += e -/
def augI3 (k : (Int → Int → Int) × Env × D × Int × Int) (d : D) (s : Store) : RS := match d with
  | .int b => mutL (setAt k.2.2.2.1 (.int (k.1 k.2.2.2.2 b))) k.2.2.1 k.2.1 s
  | _ => .no
def augIK (k : (Int → Int → Int) × FE × Env × D × Int) : Option D → Store → RS
  | some (.int a), s => (k.2.1 k.2.2.1 s).gS k.2.2.1 (k.1, k.2.2.1, k.2.2.2.1, k.2.2.2.2, a) augI3
  | _, _ => .no
def augI2 (k : (Int → Int → Int) × FE × Env × D) (d : D) (s : Store) : RS := match d with
  | .int n => augIK (k.1, k.2.1, k.2.2.1, k.2.2.2, n) ((seqL k.2.2.1 s k.2.2.2).bind fun xs => atD xs n) s
  | _ => .no
def augI1 (k : (Int → Int → Int) × FE × FE × Env) (o : D) (s : Store) : RS := (k.2.1 k.2.2.2 s).gS k.2.2.2 (k.1, k.2.2.1, k.2.2.2, o) augI2
@[simp] theorem ev_augIS {h : Int → Int → Int} : augIS h fo fi fe env st = (fo env st).gS env (h, fi, fe, env) augI1 := by
  show (fo env st).toS env _ = (fo env st).toS env _
  congr 1
  funext o s
  show _ = (fi env s).toS env (augI2 (h, fe, env, o))
  congr 1
  funext x s2
  unfold augI2
  cases x with
  | int n =>
    show _ = augIK (h, fe, env, o, n) ((seqL env s2 o).bind fun xs => atD xs n) s2
    simp only
    generalize (seqL env s2 o).bind (fun xs => atD xs n) = q
    cases q with
    | none => rfl
    | some q => cases q <;> rfl
  | _ => rfl
@[simp] theorem ev_augI1 {h : Int → Int → Int} {o : D} : augI1 (h, fi, fe, env) o s = (fi env s).gS env (h, fe, env, o) augI2 := id rfl
@[simp] theorem ev_augI2 {h : Int → Int → Int} {o : D} {n : Int} : augI2 (h, fe, env, o) (.int n) s = augIK (h, fe, env, o, n) ((seqL env s o).bind fun xs => atD xs n) s := id rfl
@[simp] theorem ev_augIK {h : Int → Int → Int} {o : D} {n a : Int} : augIK (h, fe, env, o, n) (some (.int a)) s = (fe env s).gS env (h, env, o, n, a) augI3 := id rfl
@[simp] theorem ev_augI3 {h : Int → Int → Int} {o : D} {n a b : Int} : augI3 (h, env, o, n, a) (.int b) s = mutL (setAt n (.int (h a b))) o env s := id rfl
end
/-! ### numbers written one by one -/
def tab (n : Nat) (f : Nat → Int) : List D := (List.range n).map fun i => .int (f i)
def upF (f : Nat → Int) (j : Nat) (v : Int) : Nat → Int := fun i => if i = j then v else f i
@[simp] theorem tab_length {n : Nat} {f : Nat → Int} : (tab n f).length = n := by simp [tab]
theorem tab_get {n j : Nat} {f : Nat → Int} (h : j < n) : (tab n f)[j]? = some (.int (f j)) := by simp [tab, h]
theorem ixN_at {n j : Nat} (hj : j < n) : ixN n (j : Int) = some j := by
  unfold ixN
  rw [if_pos (by omega), if_pos (by omega)]
  simp
theorem at_nat {xs : List D} {j : Nat} {d : D} (h : xs[j]? = some d) : atD xs (j : Int) = some d := by
  unfold atD
  rw [ixN_at (List.getElem?_eq_some_iff.mp h).1]
  exact h
theorem at_tab {n j : Nat} {f : Nat → Int} (h : j < n) : atD (tab n f) (j : Int) = some (.int (f j)) := at_nat (tab_get h)
theorem at_ints {ns : List Int} {j : Nat} (h : j < ns.length) : atD (ns.map D.int) (j : Int) = some (.int ns[j]) := at_nat (by simp [h])
theorem set_nat {xs : List D} {j : Nat} {d : D} (h : j < xs.length) : setAt (j : Int) d xs = some (xs.set j d) := by
  unfold setAt
  rw [ixN_at h]
  rfl
theorem tab_set {n j : Nat} {f : Nat → Int} {v : Int} : (tab n f).set j (.int v) = tab n (upF f j v) := by
  apply List.ext_getElem?
  intro i
  rw [List.getElem?_set]
  unfold tab upF
  by_cases h : j = i
  · subst h
    by_cases h2 : j < n <;> simp [h2]
  · rw [if_neg h]
    by_cases h2 : i < n
    · have : ¬ i = j := fun e => h e.symm
      simp [h2, this]
    · simp [h2]
theorem set_tab {n j : Nat} {f : Nat → Int} {v : Int} (h : j < n) : setAt (j : Int) (.int v) (tab n f) = some (tab n (upF f j v)) := by
  rw [set_nat (by simpa using h), tab_set]
theorem noSl_map {α : Type} {F : α → D} (h : ∀ a, (F a).isSl = false) : ∀ as : List α, noSl (as.map F) = true
  | [] => rfl
  | a :: r => by rw [List.map_cons, noSl_cons, h a, noSl_map h r]; rfl
@[simp] theorem noSl_tab {n : Nat} {f : Nat → Int} : noSl (tab n f) = true := noSl_map (fun _ => rfl) _
@[simp] theorem noSl_ints {ns : List Int} : noSl (ns.map D.int) = true := noSl_map (fun _ => rfl) _
theorem tab_ints (ns : List Int) : ns.map D.int = tab ns.length (fun i => ns.getD i 0) := by
  apply List.ext_getElem?
  intro i
  unfold tab
  by_cases h : i < ns.length <;> simp [h]
theorem tab_congr {n : Nat} {f g : Nat → Int} (h : ∀ i, i < n → f i = g i) : tab n f = tab n g := by
  unfold tab
  exact List.map_congr_left fun i hi => by rw [h i (List.mem_range.mp hi)]
theorem tab_map (n : Nat) (f : Nat → Int) : tab n f = ((List.range n).map f).map D.int := by simp [tab]
/-! equal things -/
mutual
/-- plain data, so deep at most -/
def D.plain : Nat → D → Bool
  | _, .non => true
  | _, .bl _ => true
  | _, .int _ => true
  | _, .str x => PyData.strOk x
  | n + 1, .tup xs => decide (xs.length ≤ 100000) && plainL n xs
  | n + 1, .lst xs => decide (xs.length ≤ 100000) && plainL n xs
  | _, _ => false
def plainL : Nat → List D → Bool
  | _, [] => true
  | n, x :: r => D.plain n x && plainL n r
end
end DL
namespace DL
open PySem PySem.Spec PyProof.Rows L2
section
variable {env : Env} {st s : Store}
mutual
theorem py_plain : ∀ (n : Nat) (d : D), d.plain n = true → ∃ p, d.py env st = some p ∧ p.canLay0 = true ∧ p.depth ≤ n
  | _, .non, _ => ⟨_, rfl, by simp [PyData.canLay0], by simp [PyData.depth]⟩
  | _, .bl _, _ => ⟨_, rfl, by simp [PyData.canLay0], by simp [PyData.depth]⟩
  | _, .int _, _ => ⟨_, rfl, by simp [PyData.canLay0], by simp [PyData.depth]⟩
  | n, .str x, h => ⟨_, rfl, by cases n <;> simpa [PyData.canLay0, D.plain] using h, by simp [PyData.depth]⟩
  | n + 1, .tup xs, h => by
    obtain ⟨ps, h1, h2, h3⟩ := pyL_plain n xs (by simp [D.plain] at h; exact h.2)
    exact ⟨.tuple ps, by simp [D.py, h1], by simpa [PyData.canLay0] using h2, by simp only [PyData.depth]; omega⟩
  | n + 1, .lst xs, h => by
    obtain ⟨ps, h1, h2, h3⟩ := pyL_plain n xs (by simp [D.plain] at h; exact h.2)
    exact ⟨.list ps, by simp [D.py, h1], by simpa [PyData.canLay0] using h2, by simp only [PyData.depth]; omega⟩
  | 0, .tup _, h => by simp [D.plain] at h
  | 0, .lst _, h => by simp [D.plain] at h
  | _, .scr _, h => by simp [D.plain] at h
  | _, .own _, h => by simp [D.plain] at h
  | _, .sl _, h => by simp [D.plain] at h
  | _, .ins _ _, h => by simp [D.plain] at h
  | _, .ty _, h => by simp [D.plain] at h
  | _, .cls _, h => by simp [D.plain] at h
theorem pyL_plain : ∀ (n : Nat) (ds : List D), plainL n ds = true → ∃ ps, pyL env st ds = some ps ∧ PyData.canLayAll0 ps = true ∧ PyData.depthAll ps ≤ n
  | _, [], _ => ⟨[], rfl, by simp [PyData.canLayAll0], by simp [PyData.depthAll]⟩
  | n, d :: r, h => by
    have h : d.plain n = true ∧ plainL n r = true := by simpa [plainL] using h
    obtain ⟨p, h1, h2, h3⟩ := py_plain n d h.1
    obtain ⟨ps, q1, q2, q3⟩ := pyL_plain n r h.2
    exact ⟨p :: ps, by simp [pyL, h1, q1], by simp [PyData.canLayAll0, h2, q2], by simp only [PyData.depthAll]; omega⟩
end
theorem pyT_plain {n : Nat} {d : D} (h : d.plain n = true) (hn : n ≤ 64) : ∃ p, pyT env st d = some p ∧ SeqAt.shaped p = true ∧ p.canLay0 = true := by
  obtain ⟨p, h1, h2, h3⟩ := py_plain (env := env) (st := st) n d h
  refine ⟨p, ?_, by unfold SeqAt.shaped; rw [h2]; simp; omega, h2⟩
  unfold pyT
  cases d with
  | lst xs => rw [seqL_lst]; simpa [D.py] using h1
  | own _ => simp [D.plain] at h
  | sl _ => simp [D.plain] at h
  | _ => exact h1
theorem eq_refl' {n : Nat} {d : D} (h : d.plain n = true) (hn : n ≤ 64) : oEq env st d d = .ok (.bl true) st := by
  obtain ⟨p, h1, h2, h3⟩ := pyT_plain (env := env) (st := st) h hn
  unfold oEq cmpD
  rw [h1]
  simp only [h2, and_self, if_true]
  rw [SeqAt.eqv_refl p h3]
  rfl
theorem ne_refl' {n : Nat} {d : D} (h : d.plain n = true) (hn : n ≤ 64) : oNe env st d d = .ok (.bl false) st := by
  obtain ⟨p, h1, h2, h3⟩ := pyT_plain (env := env) (st := st) h hn
  unfold oNe cmpD
  rw [h1]
  simp only [h2, and_self, if_true]
  rw [SeqAt.eqv_refl p h3]
  rfl
theorem plainL_map {α : Type} {n : Nat} {F : α → D} (h : ∀ a, (F a).plain n = true) : ∀ as : List α, plainL n (as.map F) = true
  | [] => by simp [plainL]
  | a :: r => by simp [plainL, h a, plainL_map h r]
@[simp] theorem plain_int {n : Nat} {i : Int} : (D.int i).plain n = true := by cases n <;> simp [D.plain]
@[simp] theorem plain_bl {n : Nat} {i : Bool} : (D.bl i).plain n = true := by cases n <;> simp [D.plain]
@[simp] theorem plain_non {n : Nat} : (D.non).plain n = true := by cases n <;> simp [D.plain]
@[simp] theorem plain_str {n : Nat} {i : Str} : (D.str i).plain n = PyData.strOk i := by cases n <;> simp [D.plain]
@[simp] theorem plain_tup {n : Nat} {xs : List D} : (D.tup xs).plain (n + 1) = (decide (xs.length ≤ 100000) && plainL n xs) := by simp [D.plain]
@[simp] theorem plain_lst {n : Nat} {xs : List D} : (D.lst xs).plain (n + 1) = (decide (xs.length ≤ 100000) && plainL n xs) := by simp [D.plain]
@[simp] theorem plainL_nil {n : Nat} : plainL n [] = true := by simp [plainL]
@[simp] theorem plainL_cons {n : Nat} {x : D} {xs : List D} : plainL n (x :: xs) = (x.plain n && plainL n xs) := by simp [plainL]
@[simp] theorem plainL_tab {n k : Nat} {f : Nat → Int} : plainL n (tab k f) = true := plainL_map (fun _ => plain_int) _
@[simp] theorem plainL_ints {n : Nat} {ns : List Int} : plainL n (ns.map D.int) = true := plainL_map (fun _ => plain_int) _
theorem pyL_ints : ∀ ns : List Int, pyL env st (ns.map D.int) = some (ns.map PyData.int)
  | [] => rfl
  | n :: r => by simp [pyL, D.py, pyL_ints r]
theorem eqv_ints : ∀ ns ms : List Int, PyData.eqvAll (ns.map PyData.int) (ms.map PyData.int) = decide (ns = ms)
  | [], [] => by simp [PyData.eqvAll]
  | [], _ :: _ => by simp [PyData.eqvAll]
  | _ :: _, [] => by simp [PyData.eqvAll]
  | n :: r, k :: q => by
    simp only [List.map_cons, PyData.eqvAll, eqv_ints r q, PyData.eqv]
    by_cases h : n = k <;> simp [h]
theorem eq_ints {ns ms : List Int} (hn : ns.length ≤ 100000 := by simp) (hm : ms.length ≤ 100000 := by simp) : oEq env st (.tup (ns.map .int)) (.tup (ms.map .int)) = .ok (.bl (decide (ns = ms))) st := by
  obtain ⟨p, h1, h2, h3⟩ := pyT_plain (env := env) (st := st) (n := 1) (d := .tup (ns.map .int)) (by simpa using hn) (by omega)
  obtain ⟨q, k1, k2, k3⟩ := pyT_plain (env := env) (st := st) (n := 1) (d := .tup (ms.map .int)) (by simpa using hm) (by omega)
  unfold oEq cmpD
  rw [h1, k1]
  simp only [h2, k2, and_self, if_true]
  have e1 : p = .tuple (ns.map PyData.int) := by
    have : pyT env st (.tup (ns.map .int)) = some (.tuple (ns.map PyData.int)) := by simp [pyT, D.py, pyL_ints]
    rw [this] at h1; exact (Option.some.inj h1).symm
  have e2 : q = .tuple (ms.map PyData.int) := by
    have : pyT env st (.tup (ms.map .int)) = some (.tuple (ms.map PyData.int)) := by simp [pyT, D.py, pyL_ints]
    rw [this] at k1; exact (Option.some.inj k1).symm
  subst e1 e2
  simp [PyData.eqv, eqv_ints]
theorem ne_ints {ns ms : List Int} (hn : ns.length ≤ 100000 := by simp) (hm : ms.length ≤ 100000 := by simp) : oNe env st (.tup (ns.map .int)) (.tup (ms.map .int)) = .ok (.bl (!decide (ns = ms))) st := by
  have h := eq_ints (env := env) (st := st) hn hm
  unfold oNe oEq cmpD at *
  revert h
  rcases pyT env st (D.tup (ns.map D.int)) with _ | a
  · intro h; cases h
  · rcases pyT env st (D.tup (ms.map D.int)) with _ | b
    · intro h; cases h
    · simp only
      split
      · intro h
        have h : PyData.eqv a b = decide (ns = ms) := by simpa using h
        simp [h]
      · intro h; cases h
theorem eq_nil {ns : List Int} (hn : ns.length ≤ 100000) : oEq env st (.tup (ns.map .int)) (.tup []) = .ok (.bl (decide (ns = []))) st := eq_ints (ms := []) hn (by simp)
/-- a sum of truths -/
theorem all_map {α : Type} {F : α → Bool} (as : List α) (h : ∀ a ∈ as, F a = true) : oAll env st [.lst (as.map fun a => .bl (F a))] = .ok (.bl true) st := by
  have e : as.map (fun a => D.bl (F a)) = (as.map F).map D.bl := by simp
  rw [e]
  show (match (some ((as.map F).map D.bl)).bind blsD with | some ns => Res.ok (D.bl (ns.all id)) st | none => .no) = _
  simp only [Option.bind_some, blsD_map]
  have : (as.map F).all id = true := by simpa using h
  rw [this]
theorem flatL_ints : ∀ ns : List Int, flatL (ns.map D.int) = some (ns.map V.int)
  | [] => rfl
  | n :: r => by simp [flatL, flatD, flatL_ints r]
end
end DL
namespace DL
open PySem PySem.Spec PyProof.Rows L2
section
variable {env : Env} {st s : Store} {f fo fi fe : FE} {t : FT} {d : D} {i : Nat} {fn : FN} {g : FM}
/-! ### cells of the store -/
def sqC : Option Cell → Option (List D)
  | some (.lst xs) => some xs
  | _ => none
@[simp] theorem sqC_lst {xs : List D} : sqC (some (.lst xs)) = some xs := id rfl
@[simp] theorem ev_seqL_own : seqL env st (.own i) = sqC st[i]? := by
  show (match st[i]? with | some (.lst xs) => some xs | _ => none) = _
  rcases st[i]? with _ | (_ | _) <;> rfl
@[simp] theorem ev_ixOwn {n : Int} : oIx env st (.own i) (.int n) = ixO n (sqC st[i]?) st := by
  show (match seqL env st (.own i) with | some xs => _ | none => _) = _
  rw [ev_seqL_own]
  cases sqC st[i]? with
  | none => rfl
  | some xs => show (match atD xs n with | some d => _ | none => _) = _; unfold ixO ixK; rfl
@[simp] theorem ev_lenOwn : oLen env st [.own i] = lenO (sqC st[i]?) st := by
  show (match seqL env st (.own i) with | some xs => _ | none => _) = _
  rw [ev_seqL_own]
  cases sqC st[i]? <;> rfl
def catO : Option (List D) → Option (List D) → Store → Res D
  | some xs, some ys, st => if xs.length + ys.length ≤ sizeLine then .ok (.lst (xs ++ ys)) st else .no
  | _, _, _ => .no
@[simp] theorem ev_catOwn {ys : List D} : oAdd env st (.own i) (.lst ys) = catO (sqC st[i]?) (some ys) st := by
  show (match seqL env st (.own i), seqL env st (.lst ys) with | some xs, some ys => _ | _, _ => _) = _
  rw [ev_seqL_own]
  cases sqC st[i]? <;> rfl
@[simp] theorem ev_catLst {xs ys : List D} : oAdd env st (.lst xs) (.lst ys) = catO (some xs) (some ys) st := id rfl
theorem ev_catO {xs ys : List D} (h : xs.length + ys.length ≤ 100000) : catO (some xs) (some ys) st = .ok (.lst (xs ++ ys)) st := if_pos (small_line h)
def putC (ys : Option (List D)) (i : Nat) (env : Env) (st : Store) : RS := match ys with
  | some ys => .nx env (st.set i (.lst ys))
  | none => .no
@[simp] theorem putC_some {ys : List D} : putC (some ys) i env st = .nx env (st.set i (.lst ys)) := id rfl
def mutC (k : (List D → Option (List D)) × Nat × Env) : Option Cell → Store → RS
  | some (.lst xs), st => putC (k.1 xs) k.2.1 k.2.2 st
  | _, _ => .no
@[simp] theorem ev_mutL_own {h : List D → Option (List D)} : mutL h (.own i) env st = mutC (h, i, env) st[i]? st := by
  unfold mutL mutC putC
  simp only
  rcases st[i]? with _ | (xs | _) <;> rfl
@[simp] theorem ev_mutC {h : List D → Option (List D)} {xs : List D} : mutC (h, i, env) (some (.lst xs)) st = putC (h xs) i env st := id rfl
/-! ### several at once -/
@[simp] theorem ev_nilM : nilM env st = .ok [] st := id rfl
def cmv2 (d : D) (is : List Itm) (s : Store) : Res (List Itm) := .ok (.val d :: is) s
def cmv1 (k : FM × Env) (d : D) (s : Store) : Res (List Itm) := if d.isSl = true then .no else (k.1 k.2 s).go d cmv2
@[simp] theorem ev_consMV : consMV f g env st = (f env st).go (g, env) cmv1 := id rfl
@[simp] theorem ev_cmv1 : cmv1 (g, env) d s = if d.isSl = true then .no else (g env s).go d cmv2 := id rfl
@[simp] theorem ev_cmv2 {is : List Itm} : cmv2 d is s = .ok (.val d :: is) s := id rfl
def cmn2 (ds : List D) (is : List Itm) (s : Store) : Res (List Itm) := .ok (.new ds :: is) s
def cmn1 (k : FM × Env) (ds : List D) (s : Store) : Res (List Itm) := (k.1 k.2 s).go ds cmn2
@[simp] theorem ev_consMN : consMN fn g env st = (fn env st).go (g, env) cmn1 := id rfl
@[simp] theorem ev_cmn1 {ds : List D} : cmn1 (g, env) ds s = (g env s).go ds cmn2 := id rfl
@[simp] theorem ev_cmn2 {ds : List D} {is : List Itm} : cmn2 ds is s = .ok (.new ds :: is) s := id rfl
def par1 (k : List Nat × Env) (is : List Itm) (s : Store) : RS := opS (setM k.2 k.1 is) s
@[simp] theorem ev_parS {ix : List Nat} : parS ix g env st = (g env st).gS env (ix, env) par1 := id rfl
@[simp] theorem ev_par1 {ix : List Nat} {is : List Itm} : par1 (ix, env) is s = opS (setM env ix is) s := id rfl
@[simp] theorem setM_nil : setM env [] [] = some env := id rfl
@[simp] theorem setM_val {ix : List Nat} {is : List Itm} : setM env (i :: ix) (.val d :: is) = setM (env.set i (.fz d)) ix is := id rfl
@[simp] theorem setM_new {ix : List Nat} {is : List Itm} {ds : List D} : setM env (i :: ix) (.new ds :: is) = setM (env.set i (.ol ds)) ix is := id rfl
def ro1 (_ : Unit) (is : List Itm) (s : Store) : RS := if is.length ≤ 1000 ∧ noD is = true then .rt (.own (s.length + (cellsOf is s.length).2.length)) (s ++ (cellsOf is s.length).2 ++ [.lst (cellsOf is s.length).1]) else .no
@[simp] theorem ev_retOwn : retOwn g env st = (g env st).gS env () ro1 := id rfl
/-! ### repeats, pops -/
def catN (xs ys : Option (List D)) (st : Store) : Res (List D) := match xs, ys with
  | some xs, some ys => if xs.length + ys.length ≤ sizeLine then .ok (xs ++ ys) st else .no
  | _, _ => .no
@[simp] theorem ev_oCatN {x y : D} : oCatN env st x y = catN (seqL env st x) (seqL env st y) st := id rfl
theorem ev_catN {xs ys : List D} (h : xs.length + ys.length ≤ 100000) : catN (some xs) (some ys) st = .ok (xs ++ ys) st := if_pos (small_line h)
theorem repD_one {d : D} : ∀ n : Nat, repD n [d] = List.replicate n d
  | 0 => rfl
  | n + 1 => by
    have ih := repD_one (d := d) n
    unfold repD at *
    rw [List.replicate_succ, List.flatten_cons, ih, List.replicate_succ]
    rfl
theorem ev_repN {d : D} {n : Nat} (h : n ≤ 100000) : oRepN env st (.lst [d]) (.int n) = .ok (List.replicate n d) st := by
  have hc : 0 ≤ (n : Int) ∧ (n : Int) < 2 ^ 63 ∧ [d].length * (n : Int).toNat ≤ sizeLine := ⟨by omega, by omega, by have := small_line h; simpa using this⟩
  unfold oRepN
  simp only [seqL_lst]
  rw [if_pos hc, Int.toNat_natCast, repD_one]
theorem tab_zero (n : Nat) : List.replicate n (D.int 0) = tab n fun _ => 0 := by
  apply List.ext_getElem?
  intro i
  by_cases h : i < n <;> simp [tab, h, List.getElem?_replicate]
def pop1 (k : Nat × Env) (o : D) (s : Store) : RS := match (seqL k.2 s o).bind fun xs => xs[xs.length - 1]? with
  | some d => match mutL (fun xs => some xs.dropLast) o k.2 s with
    | .nx e s2 => .nx (e.set k.1 (.fz d)) s2
    | _ => .no
  | none => .no
@[simp] theorem ev_popS : popS i fo env st = (fo env st).gS env (i, env) pop1 := id rfl
theorem ev_pop1 {j : Nat} {xs : List D} {d : D} (h : env[j]? = some (.ol (xs ++ [d]))) : pop1 (i, env) (.sl j) st = .nx ((env.set j (.ol xs)).set i (.fz d)) st := by
  unfold pop1
  simp only [ev_seqL_sl, h, sqK_ol, Option.bind_some]
  have e1 : (xs ++ [d])[(xs ++ [d]).length - 1]? = some d := by simp
  rw [e1]
  simp [h]
def frzJ (k : Nat × FS × Env) : Option Slot → Store → RS
  | some (.ol xs), st => k.2.1 (k.2.2.set k.1 (.fz (.lst xs))) st
  | some (.fz _), st => k.2.1 k.2.2 st
  | _, _ => .no
@[simp] theorem ev_frzI {p : FS} : frzI i p env st = frzJ (i, p, env) env[i]? st := by
  unfold frzI frzJ
  rcases env[i]? with _ | (_ | _ | _ | _) <;> rfl
@[simp] theorem ev_frzJ {p : FS} {xs : List D} : frzJ (i, p, env) (some (.ol xs)) st = p (env.set i (.fz (.lst xs))) st := id rfl
@[simp] theorem ev_frzJ2 {p : FS} {d : D} : frzJ (i, p, env) (some (.fz d)) st = p env st := id rfl
end
end DL
namespace HW
/-! ### wheels as numbers: what a whole turn gives on -/
def sm (c : List (Nat × Nat)) (g : Nat → Int) (j : Nat) : Int := (c.map fun p => if p.2 = j then g p.1 else 0).sum
def mm (m : List Int) (j : Nat) : Int := m.getD j 0
structure Good (m : List Int) (c : List (Nat × Nat)) : Prop where
  pos : ∀ x ∈ m, 2 ≤ x ∧ x ≤ 60
  up : ∀ p ∈ c, p.1 < p.2 ∧ p.2 < m.length
theorem Good.mm {m : List Int} {c : List (Nat × Nat)} (G : Good m c) {j : Nat} (h : j < m.length) : 2 ≤ mm m j ∧ mm m j ≤ 60 := by
  have e : HW.mm m j = m[j] := by simp [HW.mm, h]
  rw [e]
  exact G.pos _ (List.getElem_mem h)
theorem sm_add (c : List (Nat × Nat)) (g h : Nat → Int) (j : Nat) : sm c (fun i => g i + h i) j = sm c g j + sm c h j := by
  induction c with
  | nil => rfl
  | cons p r ih =>
    unfold sm at *
    simp only [List.map_cons, List.sum_cons, ih]
    split <;> omega
theorem sm_neg (c : List (Nat × Nat)) (g : Nat → Int) (j : Nat) : sm c (fun i => - g i) j = - sm c g j := by
  induction c with
  | nil => rfl
  | cons p r ih =>
    unfold sm at *
    simp only [List.map_cons, List.sum_cons, ih]
    split <;> omega
theorem sm_zero {c : List (Nat × Nat)} {g : Nat → Int} {j : Nat} (h : ∀ p ∈ c, p.2 = j → g p.1 = 0) : sm c g j = 0 := by
  induction c with
  | nil => rfl
  | cons p r ih =>
    have := ih fun q hq => h q (List.mem_cons_of_mem _ hq)
    unfold sm at *
    simp only [List.map_cons, List.sum_cons, this]
    split
    · rename_i e; rw [h p List.mem_cons_self e]; rfl
    · rfl
theorem sm_congr {c : List (Nat × Nat)} {g h : Nat → Int} {j : Nat} (e : ∀ p ∈ c, g p.1 = h p.1) : sm c g j = sm c h j := by
  unfold sm
  congr 1
  exact List.map_congr_left fun p hp => by rw [e p hp]
def CongK (m : List Int) (c : List (Nat × Nat)) (K x y : Nat → Int) : Prop := ∀ j, j < m.length → y j = x j - mm m j * K j + sm c K j
def Cong (m : List Int) (c : List (Nat × Nat)) (x y : Nat → Int) : Prop := ∃ K, CongK m c K x y
def Red (m : List Int) (y : Nat → Int) : Prop := ∀ j, j < m.length → 0 ≤ y j ∧ y j < mm m j
section
variable {m : List Int} {c : List (Nat × Nat)} {x y z u v : Nat → Int}
theorem Cong.refl : Cong m c x x := ⟨fun _ => 0, fun j _ => by rw [sm_zero fun _ _ _ => rfl]; simp⟩
theorem Cong.of_eq (h : ∀ j, j < m.length → x j = y j) : Cong m c x y := ⟨fun _ => 0, fun j hj => by rw [sm_zero fun _ _ _ => rfl, h j hj]; simp⟩
theorem Cong.symm : Cong m c x y → Cong m c y x := fun ⟨K, h⟩ => ⟨fun i => - K i, fun j hj => by rw [sm_neg, h j hj, Int.mul_neg]; omega⟩
theorem Cong.trans : Cong m c x y → Cong m c y z → Cong m c x z := fun ⟨K, h⟩ ⟨L, k⟩ => ⟨fun i => K i + L i, fun j hj => by rw [sm_add, k j hj, h j hj, Int.mul_add]; omega⟩
theorem Cong.add : Cong m c x y → Cong m c u v → Cong m c (fun i => x i + u i) (fun i => y i + v i) := fun ⟨K, h⟩ ⟨L, k⟩ => ⟨fun i => K i + L i, fun j hj => by simp only; rw [sm_add, k j hj, h j hj, Int.mul_add]; omega⟩
theorem Cong.shift (h : Cong m c x y) (u : Nat → Int) : Cong m c (fun i => x i + u i) (fun i => y i + u i) := h.add .refl
/-- two reduced ones that are the same but for whole turns are the same -/
theorem Cong.uniq (G : Good m c) (h : Cong m c x y) (hx : Red m x) (hy : Red m y) : ∀ j, j < m.length → x j = y j := by
  obtain ⟨K, hK⟩ := h
  have key : ∀ j, j < m.length → K j = 0 := by
    intro j
    induction j using Nat.strongRecOn with
    | ind j ih =>
      intro hj
      have e : sm c K j = 0 := sm_zero fun p hp hpj => ih p.1 (hpj ▸ (G.up p hp).1) (by have := G.up p hp; omega)
      have e2 := hK j hj
      rw [e] at e2
      have h1 := hx j hj
      have h2 := hy j hj
      have h3 := G.mm hj
      by_cases hz : K j = 0
      · exact hz
      · exfalso
        rcases Int.lt_or_gt_of_ne hz with q | q
        · have : mm m j * K j ≤ mm m j * (-1) := Int.mul_le_mul_of_nonneg_left (by omega) (by omega)
          omega
        · have : mm m j * 1 ≤ mm m j * K j := Int.mul_le_mul_of_nonneg_left (by omega) (by omega)
          omega
  intro j hj
  have e : sm c K j = 0 := sm_zero fun p hp hpj => key p.1 (by have := G.up p hp; omega)
  have := hK j hj
  rw [e, key j hj] at this
  omega
theorem Red.eq_tab (G : Good m c) (h : Cong m c x y) (hx : Red m x) (hy : Red m y) : DL.tab m.length x = DL.tab m.length y := DL.tab_congr (h.uniq G hx hy)
end
end HW
namespace DL
open PySem PySem.Spec PyProof.Rows L2
/-! ### min of alike data: the item itself -/
def rMinP (K : PySem.W.Frag) : List V → Hp → VK → Prop := fun vs H Q => ∃ (a : Addr) (xs : List V) (ps : List PyData), vs = [V.ref a] ∧ SqL K H a xs ∧ DpAll K H xs ps ∧ 0 < ps.length ∧ PySem.W.AlikeAll ps ∧ PyData.depthAll ps ≤ 60 ∧ ∀ v, xs[argBest (fun i j => PySem.W.dataLt (ps.getD i .none) (ps.getD j .none)) (ps.length - 1)]? = some v → Q v H
theorem cr_minP {X : Cx} (hc : X.calm = true) (hu : X.A.units + 64 < cLine) : CallR X (.builtin "min") (rMinP X.K) := by
  intro pins s σ H vs us Q I r h
  obtain ⟨a, xs, ps, rfl, hs, hd, hne, hal, hdp, q⟩ := h
  obtain ⟨its, rv, hl, _⟩ := I.list hs
  rw [Vals.ref1 r]
  obtain ⟨as, hr⟩ := Dp.readsAll I ps xs its hd rv
  have hn : its.toArray.size = ps.length := PySem.W.readsAll_len (vs := its.toArray) hr
  refine call_min_walkH (PySem.W.iter_listW (A := X.A.in1) (I.ok.hd hc) hl.isList fun s₂ e W st hfp hw hk => ?_)
  refine ⟨_, _, _, _, _, _, _, s.heap, _, rfl, W, st, hfp, by omega, hw, hk, PySem.W.cmpIn_lt (vs := its.toArray) (A := X.A.in1) hr hal (by show X.A.units + 1 + _ < _; omega), fun v s' hP m => ?_⟩
  obtain ⟨h', tk, rfl, hk'⟩ := PySem.W.moved_old e rfl m
  rw [hn] at hP
  rw [List.getElem?_toArray] at hP
  have hlt := (List.getElem?_eq_some_iff.mp hP).1
  have hl2 := Paired.length rv
  have hx : xs[argBest (fun i j => PySem.W.dataLt (ps.getD i .none) (ps.getD j .none)) (ps.length - 1)]? = some (xs[argBest (fun i j => PySem.W.dataLt (ps.getD i .none) (ps.getD j .none)) (ps.length - 1)]'(by omega)) := List.getElem?_eq_getElem _
  obtain ⟨w, hw, rw'⟩ := rv.get hx
  rw [hP] at hw
  cases hw
  exact ⟨_, H, I.kept hk', rw', q _ hx⟩
section
variable {Γ : Ga} {K : PySem.W.Frag} {E : WX}
variable {a b e o i : Expr} {fa fb fo fi fx : FE} {pos p apos cpos : Pos}
variable {B : Base} {ρ ρ' : List Addr} {F F' H H' : Hp} {env env' : Env} {st st' : Store} {σ σ' : L2.St} {v : V} {d : D}
def alikeB (ps : List PyData) : Bool := (ps.all fun x => ps.all fun y => PySem.W.alike x y) && ps.all fun x => match x with
  | .none => false
  | _ => true
theorem alikeB_ok {ps : List PyData} (h : alikeB ps = true) : PySem.W.AlikeAll ps := by
  unfold alikeB at h
  obtain ⟨h1, h2⟩ := Bool.and_eq_true_iff.mp h
  refine ⟨fun x hx y hy => List.all_eq_true.mp (List.all_eq_true.mp h1 x hx) y hy, fun x hx e => ?_⟩
  have := List.all_eq_true.mp h2 x hx
  subst e
  cases this
/-- min(l): tuples, or tuples of these; the item itself -/
def oMinP : OC := fun env st ds => match ds with
  | [d] => match seqL env st d with
    | some xs => match pyL env st xs with
      | some ps => if 0 < ps.length ∧ alikeB ps = true ∧ PyData.depthAll ps ≤ 60 then match xs[argBest (fun i j => PySem.W.dataLt (ps.getD i .none) (ps.getD j .none)) (ps.length - 1)]? with
          | some x => .ok x st
          | none => .no
        else .no
      | none => .no
    | none => .no
  | _ => .no
theorem snd_minP : SndC K E (rMinP K) oMinP := fun B ρ F env st σ H Q vs ds S r h => by
  unfold oMinP at h
  split at h
  · obtain ⟨v, rfl, r1⟩ := r.one
    split at h
    · rename_i xs hx
      split at h
      · rename_i ps hp
        split at h
        · rename_i hc
          obtain ⟨a, us, rfl, g0, g1⟩ := seqL_ok S r1 hx
          split at h
          · rename_i x hxi
            obtain ⟨u, k1, k2⟩ := g1.get hxi
            exact ⟨a, us, ps, rfl, .inl (.inl g0), pyL_ok S xs us ps g1 hp, hc.1, alikeB_ok hc.2.1, hc.2.2, fun v hv => by
              rw [k1] at hv; cases hv
              exact h.ret S (.inl k2)⟩
          · exact h.elim
        · exact h.elim
      · exact h.elim
    · exact h.elim
  · exact h.elim
theorem room64 {k : Nat} {A : Around} (h : Room k A) : A.units + 64 < cLine := by
  have h1 := h.units
  omega
theorem dc_minP : DC Γ (.builtin "min") oMinP := ⟨rMinP Γ.K, fun X m => by rw [← m.K]; exact cr_minP m.calm (room64 m.room), snd_minP⟩
/-! ### max of ints -/
def maxI : List Int → Option Int
  | [] => none
  | a :: r => some (r.foldl max a)
theorem foldl_max : ∀ (r : List Int) (a : Int), (∀ y ∈ a :: r, y ≤ r.foldl max a) ∧ r.foldl max a ∈ a :: r
  | [], a => ⟨by simp, by simp⟩
  | b :: r, a => by
    obtain ⟨h1, h2⟩ := foldl_max r (max a b)
    rw [List.foldl_cons]
    refine ⟨fun y hy => ?_, ?_⟩
    · have hm := h1 (max a b) List.mem_cons_self
      rcases List.mem_cons.mp hy with rfl | hy
      · omega
      · rcases List.mem_cons.mp hy with rfl | hy
        · omega
        · exact h1 y (List.mem_cons_of_mem _ hy)
    · rcases List.mem_cons.mp h2 with h | h
      · by_cases hab : a ≤ b
        · have : max a b = b := by omega
          rw [this] at h ⊢; rw [h]; simp
        · have : max a b = a := by omega
          rw [this] at h ⊢; rw [h]; simp
      · simp [h]
theorem maxI_uniq {ns : List Int} {m k : Int} (h : maxI ns = some k) (hm : m ∈ ns) (hle : ∀ y ∈ ns, y ≤ m) : m = k := by
  cases ns with
  | nil => simp at hm
  | cons a r =>
    simp only [maxI, Option.some.injEq] at h
    subst h
    obtain ⟨h1, h2⟩ := foldl_max r a
    have := h1 m hm
    have := hle _ h2
    omega
def oMaxL : OC := fun env st ds => match ds with
  | [d] => match (seqL env st d).bind intsD with
    | some ns => match maxI ns with
      | some k => .ok (.int k) st
      | none => .no
    | none => .no
  | _ => .no
theorem snd_maxL : SndC K E (rMax K) oMaxL := fun B ρ F env st σ H Q vs ds S r h => by
  unfold oMaxL at h
  split at h
  · obtain ⟨v, rfl, r1⟩ := r.one
    split at h
    · rename_i ns hn
      obtain ⟨xs, h1, h2⟩ := Option.bind_eq_some_iff.mp hn
      obtain ⟨a, us, rfl, g0, g1⟩ := seqL_ok S r1 h1
      have e := intsD_ok h2 g1
      subst e
      split at h
      · rename_i k hk
        refine ⟨a, ns, rfl, .inl (.inl g0), ?_, fun m hm hle => ?_⟩
        · cases ns with
          | nil => simp [maxI] at hk
          | cons _ _ => simp
        · rw [maxI_uniq hk hm hle]
          exact h.ret S (.inl (.int _))
      · exact h.elim
    · exact h.elim
  · exact h.elim
theorem dc_maxL : DC Γ (.builtin "max") oMaxL := ⟨rMax Γ.K, fun X m => by rw [← m.K]; exact cr_max m.calm, snd_maxL⟩
/-! ### d.get(k, x) -/
def gt2 (fo fi fx : FE) : FE := fun env st => (fo env st).bind fun o s1 => match dicD env o with
  | some _ => (fi env s1).bind fun k s2 => (fx env s2).bind fun x s3 => match dicD env o, keyD k with
    | some kvs, some ns => .ok ((kvs.lookup ns).getD x) s3
    | _, _ => .no
  | none => .no
theorem isD_of {a : Addr} {kv : List (List Key × V)} (h : Rd H a (.dT kv)) : IsD H a := .inr ⟨_, h⟩
theorem de_dget2 (ho : DE Γ o fo) (hi : DE Γ i fi) (hx : DE Γ e fx)
    (hb : ∀ env : PySem.Env, attributeBase o "get" env (eval o env) = eval o env := by intro _; rfl)
    (hf : ∀ env : PySem.Env, ((backTo cpos (starEach [i, e] env)).all (fun x => !x.1) && (backToKw cpos (keywordEach [] env)).all (fun x => x.1.isSome)
      && decide (([i, e] : List Expr).length + ([] : List Keyword).length + (if ([] : List Keyword).isEmpty then 0 else 1) < 30)) = true := by intro _; rfl)
    (hl : (apos.endLine == cpos.line) = true := by rfl)
    (ht : ∀ env : PySem.Env, backTo cpos (starEach [i, e] env) = [(false, eval i env), (false, eval e env)] := by intro _; rfl) :
    DE Γ (.Call (.Attribute o "get" apos) [i, e] [] cpos) (gt2 fo fi fx) := by
  obtain ⟨t, p, q⟩ := ho.run
  obtain ⟨u, p1, q1⟩ := hi.run
  obtain ⟨w, p2, q2⟩ := hx.run
  refine ⟨tDGet2 t u w, fun X m => pe_dget2 (hu_of m.room) (p X m) (p1 X m) (p2 X m) ⟨hb X.env, hf X.env, hl, ht X.env⟩, fun B ρ F env st σ H Q S h => q B ρ F env st σ H _ S (Out.bind h fun od s1 ρ1 F1 H1 vo S1 l1 e1 r1 h1 => ?_)⟩
  split at h1
  · rename_i kv0 hd0
    obtain ⟨a, kv, rfl, g1, g2⟩ := dic_ok S1 r1 hd0
    refine ⟨a, rfl, isD_of g1, q1 B ρ1 F1 env s1 σ H1 _ S1 (Out.bind h1 fun kd s2 ρ2 F2 H2 vk S2 l2 e2 r2 h2 => q2 B ρ2 F2 env s2 σ H2 _ S2 (Out.bind h2 fun xd s3 ρ3 F3 H3 vx S3 l3 e3 r3 h3 => ?_))⟩
    split at h3
    · rename_i kvs ns hd hk
      obtain ⟨a', kv', ea, g1', g2'⟩ := dic_ok S3 ((r1.mono l2 e2).mono l3 e3) hd
      cases ea
      obtain ⟨b, rfl, g3⟩ := key_ok S3 (r2.mono l3 e3) hk
      refine ⟨valV kv' (ns.map Sum.inl), .inr ⟨kv', _, b, g1', rfl, g3, rfl⟩, ?_⟩
      cases hl : kvs.lookup ns with
      | some d =>
        obtain ⟨w', g4, g5⟩ := (g2'.get ns).2 d hl
        rw [g4]
        rw [hl] at h3
        exact h3.ret S3 (.inl g5)
      | none =>
        have h4 := (g2'.get ns).1
        rw [hl] at h4
        have h5 : valV kv' (ns.map Sum.inl) = none := by
          cases hv : valV kv' (ns.map Sum.inl) with
          | none => rfl
          | some _ => rw [hv] at h4; cases h4
        rw [h5]
        rw [hl] at h3
        exact h3.ret S3 r3
    · exact h3.elim
  · exact h1.elim
/-! ### the keys of a dict that stands still -/
def itD (f : FE) : FI := fun env st => (f env st).bind fun d s => match d with
  | .dic kvs => .ok (kvs.map fun p => .tup (p.1.map .int)) s
  | _ => .no
theorem iter_dic {a : Addr} {o : Obj} {kv : List (List Key × V)} {kvs : List (List Int × D)} (h : F a = some (.frz o (.dT kv))) (hk : kv.map (·.1) = kvs.map (fun p => p.1.map Sum.inl)) : Iter K ρ F (Itkt a o kv) (kvs.map fun p => .tup (p.1.map .int)) := by
  have w := walk_keysT (d := a) (o := o) (kvs := kv)
  have hlen : kv.length = kvs.length := by have := congrArg List.length hk; simpa using this
  rw [hlen] at w
  refine ⟨_, _, by rw [List.length_map]; exact w, fun H e => e _ _ h, fun i H x H' y => ?_⟩
  obtain ⟨rfl, k, v, q, h1, rfl, h2⟩ := y
  have h3 : (kv.map (·.1))[i]? = some k := by rw [List.getElem?_map, h1]; rfl
  rw [hk, List.getElem?_map] at h3
  cases h4 : kvs[i]? with
  | none => rw [h4] at h3; cases h3
  | some p =>
    rw [h4] at h3
    cases h3
    refine ⟨.tup (p.1.map .int), by rw [List.getElem?_map, h4]; rfl, .inr (.inr ⟨q, _, _, rfl, h2, rfl, rfl, ?_⟩)⟩
    have : (p.1.map Sum.inl : List Key).map kV = p.1.map V.int := by rw [List.map_map]; rfl
    rw [this]
    exact RpL.of_ints _
theorem di_dic {tg : Expr} (h : DE Γ a fa) : DI Γ tg a (itD fa) := by
  obtain ⟨t, p, q⟩ := h.run
  refine ⟨iKeys t, fun X m => pi_keys (p X m), fun B ρ F env st σ H R S h => q B ρ F env st σ H _ S (Out.bind h fun d s1 ρ1 F1 H1 v S1 l1 e1 r1 h1 => ?_)⟩
  split at h1
  · have r2 := r1.rp rfl
    cases r2 with
    | dic g1 g2 g3 => exact ⟨_, _, rfl, .inr ⟨_, S1.so.sub _ _ g1, h1.ret S1 (iter_dic g1 g2)⟩⟩
  · exact h1.elim
end
end DL
namespace DL
open PySem PySem.Spec PyProof.Rows L2
theorem walk_turn {J : It} {n : Nat} {G : Hp → Prop} {Y : Nat → Hp → V → Hp → Prop} (w : Walk J n G Y) {H1 : Hp} {Qd : Hp → Prop} {Body : V → Hp → (Hp → Prop) → Prop} (Pv : Nat → Hp → Prop) (h0 : Pv 0 H1) (hG : ∀ i H, i ≤ n → Pv i H → G H)
    (hs : ∀ i x H H', i < n → Pv i H → Y i H x H' → Body x H' (Pv (i + 1))) (hd : ∀ H, Pv n H → Qd H) :
    ∃ W : Nat → Nat → Hp → Prop, (∃ m, W 0 m H1) ∧ ∀ i m H, W i m H → (J.stop i H ∧ Qd H) ∨ (J.go i H ∧ ∃ Nx : Hp → Prop, (∀ H', Nx H' → ∃ m', m' < m ∧ W (i + 1) m' H') ∧ ∀ x H', J.yld i H x H' → Body x H' Nx) := by
  refine ⟨fun i m H => m = n - i ∧ i ≤ n ∧ Pv i H, ⟨n, by simp, Nat.zero_le _, h0⟩, ?_⟩
  rintro i m H ⟨rfl, hi, p⟩
  have q := hG i H hi p
  by_cases hlt : i < n
  · exact .inr ⟨w.goes i H hlt q, Pv (i + 1), fun H' p' => ⟨n - (i + 1), by omega, rfl, hlt, p'⟩, fun x H' y => hs i x H H' hlt p (w.yields i H x H' hlt q y)⟩
  · have e : i = n := by omega
    subst e
    exact .inl ⟨w.stops H q, hd H p⟩
/-! ### comprehensions with two clauses -/
def lcL2 (g : FGn) (test : FT) (it1 : FI) (g1 : FGn) (test1 : FT) (el : FE) (vs1 : List Nat) (env0 : Env) : List D → Store → Res (List D)
  | [], st => .ok [] st
  | d :: r, st => match g d env0 with
    | none => .no
    | some e => (noE (test e st)).bind fun b s => if b = true then (noE (it1 e s)).bind fun ds1 s1 => if notOwned e vs1 = true then (lcL g1 test1 el (wipeE e vs1) ds1 s1).bind fun ys s2 => (lcL2 g test it1 g1 test1 el vs1 env0 r s2).bind fun zs s3 => .ok (ys ++ zs) s3 else .no
      else lcL2 g test it1 g1 test1 el vs1 env0 r s
def chk (r : Res (List D)) : Res (List D) := r.bind fun zs s => if zs.length ≤ sizeLine then .ok zs s else .no
def lc2N (it : FI) (g : FGn) (test : FT) (it1 : FI) (g1 : FGn) (test1 : FT) (el : FE) (vs vs1 : List Nat) : FN := fun env st => (it env st).bind fun ds s => if notOwned env vs = true then chk (lcL2 g test it1 g1 test1 el vs1 (wipeE env vs) ds s) else .no
def Res.nE {α : Type} (r : Res α) : Prop := ∀ c fs s, r ≠ .err c fs s
theorem nE_ok {α : Type} {a : α} {s : Store} : (Res.ok a s).nE := fun _ _ _ h => by cases h
theorem nE_no {α : Type} : (Res.no : Res α).nE := fun _ _ _ h => by cases h
theorem nE_noE {α : Type} {r : Res α} : (noE r).nE := by
  cases r with
  | ok a s => exact nE_ok
  | err c fs s => exact nE_no
  | no => exact nE_no
theorem nE_bind {α β : Type} {r : Res α} {k : α → Store → Res β} (h : r.nE) (hk : ∀ a s, (k a s).nE) : (r.bind k).nE := by
  cases r with
  | ok a s => exact hk a s
  | err c fs s => exact absurd rfl (h c fs s)
  | no => exact nE_no
theorem lcL_nE {g : FGn} {test : FT} {el : FE} {env0 : Env} : ∀ (ds : List D) (st : Store), (lcL g test el env0 ds st).nE
  | [], _ => nE_ok
  | d :: r, st => by
    unfold lcL
    split
    · exact nE_no
    · refine nE_bind nE_noE fun b s => ?_
      split
      · refine nE_bind nE_noE fun y s2 => ?_
        split
        · exact nE_no
        · exact nE_bind (lcL_nE r s2) fun _ _ => nE_ok
      · exact lcL_nE r s
theorem lcL2_nE {g : FGn} {test : FT} {it1 : FI} {g1 : FGn} {test1 : FT} {el : FE} {vs1 : List Nat} {env0 : Env} : ∀ (ds : List D) (st : Store), (lcL2 g test it1 g1 test1 el vs1 env0 ds st).nE
  | [], _ => nE_ok
  | d :: r, st => by
    unfold lcL2
    split
    · exact nE_no
    · refine nE_bind nE_noE fun b s => ?_
      split
      · refine nE_bind nE_noE fun ds1 s1 => ?_
        split
        · exact nE_bind (lcL_nE _ _) fun ys s2 => nE_bind (lcL2_nE r s2) fun _ _ => nE_ok
        · exact nE_no
      · exact lcL2_nE r s
section
variable {Γ : Ga} {K : PySem.W.Frag} {E : WX}
variable {B : Base} {ρ ρ' : List Addr} {F F' H H' : Hp} {env env' : Env} {st st' : Store} {σ σ' : L2.St} {v : V} {d : D}
theorem chk_pre_bind {α : Type} (acc : List D) (r : Res α) (k : α → Store → Res (List D)) : chk (pre acc (r.bind k)) = r.bind fun x s => chk (pre acc (k x s)) := by
  cases r <;> rfl
theorem chk_len {acc : List D} {r : Res (List D)} {Q : VK} (hn : r.nE) (h : OutN K E B ρ F env σ Q (chk (pre acc r))) : acc.length ≤ sizeLine := by
  cases r with
  | ok zs s =>
    unfold chk pre at h
    simp only [Res.bind] at h
    split at h
    · rename_i hl
      rw [List.length_append] at hl
      omega
    · exact h.elim
  | err c fs s => exact absurd rfl (hn c fs s)
  | no => exact h.elim
theorem snd_lc2 {wi wi1 : TI} {tg tg1 : TG} {tt tt1 : TT} {te : TE} {it it1 : FI} {g g1 : FGn} {test test1 : FT} {el : FE} {vs vs1 : List Nat} (hi : SndI K E wi it)
    (hg : ∀ B ρ F env st σ H v d Q env', Sim K B ρ F env st σ H → Rp K ρ F v d → g d env = some env' → (∀ σ', Sim K B ρ F env' st σ' H → Off vs env env' σ σ' → Q σ' H) → tg v σ H Q) (ht : SndT K E0W tt test)
    (hi1 : SndI K E0W wi1 it1)
    (hg1 : ∀ B ρ F env st σ H v d Q env', Sim K B ρ F env st σ H → Rp K ρ F v d → g1 d env = some env' → (∀ σ', Sim K B ρ F env' st σ' H → Off vs1 env env' σ σ' → Q σ' H) → tg1 v σ H Q) (ht1 : SndT K E0W tt1 test1) (he : SndE K E0W te el) :
    SndN K E (tLc2 wi tg tt wi1 tg1 tt1 te vs vs1) (lc2N it g test it1 g1 test1 el vs vs1) := fun B ρ F env st σ H Q S h =>
  hi B ρ F env st σ H _ S (OutN.bind h fun ds s1 ρ1 F1 H1 J S1 l1 e1 iter h1 => by
    split at h1
    · rename_i hno
      intro Dl hD
      obtain ⟨G, Y, w, hG, hY⟩ := iter
      have h1' : OutN K E B ρ1 F1 env σ Q (chk (pre [] (lcL2 g test it1 g1 test1 el vs1 (wipeE env vs) ds s1))) := by
        have : pre [] (lcL2 g test it1 g1 test1 el vs1 (wipeE env vs) ds s1) = lcL2 g test it1 g1 test1 el vs1 (wipeE env vs) ds s1 := by
          cases lcL2 g test it1 g1 test1 el vs1 (wipeE env vs) ds s1 <;> rfl
        rw [this]; exact h1
      refine walk_turn w (fun i H' => ∃ ρ' F' st' acc vacc, Sim K B ρ' F' env st' σ H' ∧ Lg ρ1 ρ' ∧ Same F1 F' ∧ Alone K B ρ' F' H' env σ Dl vacc ∧ RpL K ρ' F' vacc acc ∧ OutN K E B ρ' F' env σ Q (chk (pre acc (lcL2 g test it1 g1 test1 el vs1 (wipeE env vs) (ds.drop i) st'))))
        ⟨ρ1, F1, s1, [], [], S1.more (same_new hD), .refl _, .refl _, ⟨upd_same, S1.noF hD, S1.noρ hD, S1.noOwn hD, S1.back hD, fun _ => HO.noConfusion⟩, .nil, h1'⟩
        (fun i H' _ ⟨ρ', F', st', acc, vacc, S', l', e', _⟩ => hG H' (e'.trans S'.so.sub)) (fun i x H' H'' hi' ⟨ρ', F', st', acc, vacc, S', l', e', A', r', h'⟩ y => ?_) (fun H' ⟨ρ', F', st', acc, vacc, S', l', e', A', r', h'⟩ => ?_)
      · obtain ⟨d, hd, hx⟩ := hY i H' x H'' y
        obtain ⟨F2, S2, f2, r2, hk⟩ := item_ok (Y := Y) S' l' e' hd hx
        have A2 : Alone K B ρ' F2 H'' env σ Dl vacc := ⟨(hk _ _ A'.at_ A'.nT).1, (hk _ _ A'.at_ A'.nT).2.trans A'.nF, A'.nρ, A'.nO, A'.nB, A'.nT⟩
        have hdr : ds.drop i = d :: ds.drop (i + 1) := by
          obtain ⟨hlt, he⟩ := List.getElem?_eq_some_iff.mp hd
          rw [List.drop_eq_getElem_cons hlt, he]
        rw [hdr] at h'
        unfold lcL2 at h'
        have h2 := OutN.on h' (.refl _) f2
        cases hge : g d (wipeE env vs) with
        | none => rw [hge] at h2; exact h2.elim
        | some e1 =>
          rw [hge] at h2
          simp only [chk_pre_bind] at h2
          refine hg B ρ' F2 (wipeE env vs) st' (wipe σ vs) H'' x d _ e1 S2.off r2 hge fun σ2 S3 o3 => ⟨wipe_same (o3.len.trans (wipe_length _ _)) fun k hk => (o3.out k hk).1, ?_⟩
          have off : Off vs env e1 σ σ2 := off_wipe.trans o3
          have back : ∀ (k : Nat) (s : Slot), env[k]? = some s → s.owned = true → e1[k]? = some s ∧ σ2[k]? = σ[k]? := fun k s hk ho => by
            have hkv : k ∉ vs := fun hm => by
              have := List.all_eq_true.mp hno k hm
              rw [hk] at this
              simp only [ho] at this
              cases this
            obtain ⟨q1, q2⟩ := off.out k hkv
            exact ⟨q2.trans hk, q1⟩
          refine ht (reb ρ' F2 H'' e1 σ2) ρ' F2 e1 st' σ2 H'' _ S3.rebase (noE_out h2 fun bb st3 ρ3 F3 H3 vb T3 l3 f3 rb h3 => ?_)
          have A3 := A2.stay off.own T3
          have S4 := S3.trans T3
          subst rb
          cases vb with
          | false =>
            exact ⟨ρ3, F3, st3, acc, vacc, S2.restore S4 l3 f3 back, l'.trans l3, (e'.trans f2).trans f3, A3, (r'.mono (.refl _) f2).mono l3 f3, h3⟩
          | true =>
            simp only [if_true] at h3 ⊢
            rw [chk_pre_bind] at h3
            refine hi1 (reb ρ3 F3 H3 e1 σ2) ρ3 F3 e1 st3 σ2 H3 _ S4.rebase (noE_out h3 fun ds1 st4 ρ4 F4 H4 J1 T4 l4 f4 iter1 h4 => ?_)
            split at h4
            · rename_i hno1
              have A4 := A3.stay off.own T4
              have S5 := S4.trans T4
              have r4 := (((r'.mono (.refl _) f2).mono l3 f3).mono l4 f4)
              obtain ⟨G1, Y1, w1, hG1, hY1⟩ := iter1
              refine walk_turn w1 (fun j Hj => ∃ ρ5 F5 st5 acc5 vacc5, Sim K B ρ5 F5 e1 st5 σ2 Hj ∧ Lg ρ4 ρ5 ∧ Same F4 F5 ∧ Alone K B ρ5 F5 Hj env σ Dl vacc5 ∧ RpL K ρ5 F5 vacc5 acc5 ∧ OutN K E B ρ5 F5 env σ Q (chk (pre acc5 ((lcL g1 test1 el (wipeE e1 vs1) (ds1.drop j) st5).bind fun ys s2 => (lcL2 g test it1 g1 test1 el vs1 (wipeE env vs) (ds.drop (i + 1)) s2).bind fun zs s3 => .ok (ys ++ zs) s3))))
                ⟨ρ4, F4, st4, acc, vacc, S5, .refl _, .refl _, A4, r4, h4⟩
                (fun j Hj _ ⟨ρ5, F5, st5, acc5, vacc5, S', l', e', _⟩ => hG1 Hj (e'.trans S'.so.sub)) (fun j x1 Hj Hj' hj' ⟨ρ5, F5, st5, acc5, vacc5, T5, l5, f5, A5, r5, h5⟩ y1 => ?_) (fun Hj ⟨ρ5, F5, st5, acc5, vacc5, T5, l5, f5, A5, r5, h5⟩ => ?_)
              · obtain ⟨d1, hd1, hx1⟩ := hY1 j Hj x1 Hj' y1
                obtain ⟨F6, S6, f6, r6, hk6⟩ := item_ok (Y := Y1) T5 l5 f5 hd1 hx1
                have A6 : Alone K B ρ5 F6 Hj' env σ Dl vacc5 := ⟨(hk6 _ _ A5.at_ A5.nT).1, (hk6 _ _ A5.at_ A5.nT).2.trans A5.nF, A5.nρ, A5.nO, A5.nB, A5.nT⟩
                have hdr1 : ds1.drop j = d1 :: ds1.drop (j + 1) := by
                  obtain ⟨hlt, he⟩ := List.getElem?_eq_some_iff.mp hd1
                  rw [List.drop_eq_getElem_cons hlt, he]
                rw [hdr1] at h5
                unfold lcL at h5
                have h6 := OutN.on h5 (.refl _) f6
                cases hge1 : g1 d1 (wipeE e1 vs1) with
                | none => rw [hge1] at h6; exact h6.elim
                | some e2 =>
                  rw [hge1] at h6
                  have ba : ∀ {α β γ : Type} (r : Res α) (k : α → Store → Res β) (k2 : β → Store → Res γ), (r.bind k).bind k2 = r.bind fun a s => (k a s).bind k2 := fun r k k2 => by cases r <;> rfl
                  simp only [ba] at h6
                  rw [chk_pre_bind] at h6
                  refine hg1 B ρ5 F6 (wipeE e1 vs1) st5 (wipe σ2 vs1) Hj' x1 d1 _ e2 S6.off r6 hge1 fun σ3 S7 o7 => ⟨wipe_same (o7.len.trans (wipe_length _ _)) fun k hk => (o7.out k hk).1, ?_⟩
                  have off1 : Off vs1 e1 e2 σ2 σ3 := off_wipe.trans o7
                  have own1 : ∀ (k : Nat) (s : Slot), e2[k]? = some s → s.owned = true → env[k]? = some s ∧ σ3[k]? = σ[k]? := fun k s hk ho => by
                    obtain ⟨q1, q2⟩ := off1.own k s hk ho
                    obtain ⟨q3, q4⟩ := off.own k s q1 ho
                    exact ⟨q3, q2.trans q4⟩
                  have back1 : ∀ (k : Nat) (s : Slot), e1[k]? = some s → s.owned = true → e2[k]? = some s ∧ σ3[k]? = σ2[k]? := fun k s hk ho => by
                    have hkv : k ∉ vs1 := fun hm => by
                      have := List.all_eq_true.mp hno1 k hm
                      rw [hk] at this
                      simp only [ho] at this
                      cases this
                    obtain ⟨q1, q2⟩ := off1.out k hkv
                    exact ⟨q2.trans hk, q1⟩
                  refine ht1 (reb ρ5 F6 Hj' e2 σ3) ρ5 F6 e2 st5 σ3 Hj' _ S7.rebase (noE_out h6 fun bb1 st8 ρ8 F8 H8 vb1 T8 l8 f8 rb1 h8 => ?_)
                  have A8 := A6.stay own1 T8
                  have S8 := S7.trans T8
                  subst rb1
                  cases vb1 with
                  | false =>
                    simp only [Bool.false_eq_true, if_false] at h8 ⊢
                    exact ⟨ρ8, F8, st8, acc5, vacc5, S6.restore S8 l8 f8 back1, l5.trans l8, (f5.trans f6).trans f8, A8, (r5.mono (.refl _) f6).mono l8 f8, h8⟩
                  | true =>
                    simp only [if_true] at h8 ⊢
                    rw [ba, chk_pre_bind] at h8
                    refine he (reb ρ8 F8 H8 e2 σ3) ρ8 F8 e2 st8 σ3 H8 _ S8.rebase (noE_out h8 fun yy st9 ρ9 F9 H9 vy T9 l9 f9 ry h9 => ?_)
                    have A9 := A8.stay own1 T9
                    have S9 := S6.restore (S8.trans T9) (l8.trans l9) (f8.trans f9) back1
                    have r9 := ((r5.mono (.refl _) f6).mono l8 f8).mono l9 f9
                    split at h9
                    · exact h9.elim
                    · rename_i hsl
                      have epre : ∀ X : Res (List D), pre acc5 (((X.bind fun ys s3 => .ok (yy :: ys) s3)).bind fun ys s2 => (lcL2 g test it1 g1 test1 el vs1 (wipeE env vs) (ds.drop (i + 1)) s2).bind fun zs s3 => .ok (ys ++ zs) s3) = pre (acc5 ++ [yy]) (X.bind fun ys s2 => (lcL2 g test it1 g1 test1 el vs1 (wipeE env vs) (ds.drop (i + 1)) s2).bind fun zs s3 => .ok (ys ++ zs) s3) := fun X => by
                        cases X with
                        | ok ys s =>
                          simp only [Res.bind]
                          cases lcL2 g test it1 g1 test1 el vs1 (wipeE env vs) (ds.drop (i + 1)) s <;> simp [pre, Res.bind]
                        | err c fs s => rfl
                        | no => rfl
                      rw [epre] at h9
                      have hlen := chk_len (nE_bind (lcL_nE _ _) fun ys s2 => nE_bind (lcL2_nE _ s2) fun _ _ => nE_ok) h9
                      refine ⟨vacc5, A9.at_, by rw [r9.length]; simp at hlen; omega, ρ9, F9, st9, acc5 ++ [yy], vacc5 ++ [vy], S9.alone (⟨A9.at_, A9.nF, A9.nρ, fun ⟨i, s, h1, h2, h3⟩ => A9.nO (by obtain ⟨q1, q2⟩ := off.own i s h1 h2; exact ⟨i, s, q1, h2, by unfold OwnAt at *; rw [← q2]; exact h3⟩), A9.nB, A9.nT⟩ : Alone K B ρ9 F9 H9 e1 σ2 Dl vacc5), (l5.trans l8).trans l9, ((f5.trans f6).trans f8).trans f9, ⟨upd_same, A9.nF, A9.nρ, A9.nO, A9.nB, fun _ => HO.noConfusion⟩, r9.append (.cons (ry.rp (by simpa using hsl)) .nil), h9⟩
              · rw [List.drop_length] at h5
                have e0 : ((lcL g1 test1 el (wipeE e1 vs1) [] st5).bind fun ys s2 => (lcL2 g test it1 g1 test1 el vs1 (wipeE env vs) (ds.drop (i + 1)) s2).bind fun zs s3 => .ok (ys ++ zs) s3) = lcL2 g test it1 g1 test1 el vs1 (wipeE env vs) (ds.drop (i + 1)) st5 := by
                  simp only [lcL, Res.bind, List.nil_append]
                  cases lcL2 g test it1 g1 test1 el vs1 (wipeE env vs) (ds.drop (i + 1)) st5 <;> rfl
                rw [e0] at h5
                exact ⟨ρ5, F5, st5, acc5, vacc5, S2.restore T5 ((l3.trans l4).trans l5) ((f3.trans f4).trans f5) back, ((l'.trans l3).trans l4).trans l5, (((e'.trans f2).trans f3).trans f4).trans f5, A5, r5, h5⟩
            · exact h4.elim
      · rw [List.drop_length] at h'
        simp only [lcL2, pre, Res.bind, List.append_nil, chk] at h'
        split at h'
        · exact h' ρ' F' H' Dl vacc S' (.refl _) (.refl _) A'.at_ A'.nF A'.nρ A'.nO A'.nB r'
        · exact h'.elim
    · exact h1.elim)
theorem dn_lc2 {elt tg iter tg1 iter1 : Expr} {ifs ifs1 : List Expr} {scope : Scope} {pos : Pos} {vs vs1 ws ws1 : List Nat} {it it1 : FI} {gn gn1 : FGn} {test test1 : FT} {el : FE} (own : List (Str × Nat)) (hi : DI Γ tg iter it) (ok : blkC Γ.N Γ.sc scope own = true) (hg : DGn (Γ.blk scope) tg ws gn) (ht : DTs (Γ.blk scope) ifs test)
    (hi1 : DI (Γ.blk scope) tg1 iter1 it1) (hg1 : DGn (Γ.blk scope) tg1 ws1 gn1) (ht1 : DTs (Γ.blk scope) ifs1 test1) (he : DE (Γ.blk scope) elt el) (hv : own.map (·.2) = vs := by rfl) (hv1 : ∀ k ∈ vs1, k ∈ vs := by decide) (hw : ∀ k ∈ ws, k ∈ vs := by decide) (hw1 : ∀ k ∈ ws1, k ∈ vs1 := by decide) (hN : Γ.N.Nodup := by assumption)
    (hs : ∀ (env : PySem.Env) x, foldedSetIterable iter env x = pure x := by intro _ _; rfl) (hs1 : ∀ (env : PySem.Env) x, foldedSetIterable iter1 env x = pure x := by intro _ _; rfl) : DN Γ (.ListComp elt [⟨tg, iter, ifs, 0⟩, ⟨tg1, iter1, ifs1, 0⟩] scope pos) (lc2N it gn test it1 gn1 test1 el vs vs1) := by
  obtain ⟨wi, p, q⟩ := hi.run
  obtain ⟨t, p1, q1⟩ := hg.run
  obtain ⟨u, p2, q2⟩ := ht.run
  obtain ⟨x, p3, q3⟩ := he.run
  obtain ⟨wi1, p4, q4⟩ := hi1.run
  obtain ⟨t1, p5, q5⟩ := hg1.run
  obtain ⟨u1, p6, q6⟩ := ht1.run
  subst hv
  refine ⟨_, fun X m => pe_lc2 (vs1 := vs1) m.calm (by rw [m.N]; exact hN) (p X m) (blkOk_by (by rw [m.N, m.sc]; exact ok)) hv1 (fun s H C cl fp => p1 _ (m.blk s H scope C cl fp)) (fun s H C cl fp => p2 _ (m.blk s H scope C cl fp)) (fun s H C cl fp => p4 _ (m.blk s H scope C cl fp)) (fun s H C cl fp => p5 _ (m.blk s H scope C cl fp)) (fun s H C cl fp => p6 _ (m.blk s H scope C cl fp)) (fun s H C cl fp => p3 _ (m.blk s H scope C cl fp)) (hs X.env) hs1,
    snd_lc2 q (fun B ρ F env st σ H v d Q env' S r e h => q1 B ρ F env st σ H v d Q env' S r e fun σ' S' o => h σ' S' (o.mono hw)) q2 q4 (fun B ρ F env st σ H v d Q env' S r e h => q5 B ρ F env st σ H v d Q env' S r e fun σ' S' o => h σ' S' (o.mono hw1)) q6 q3⟩
theorem ds_setLc2 (j : Nat) {y : Str} {py pos spos : Pos} {elt tg iter tg1 iter1 : Expr} {ifs ifs1 : List Expr} {scope : Scope} {vs vs1 ws ws1 : List Nat} {it it1 : FI} {gn gn1 : FGn} {test test1 : FT} {el : FE} (own : List (Str × Nat)) (hi : DI Γ tg iter it) (ok : blkC Γ.N Γ.sc scope own = true) (hg : DGn (Γ.blk scope) tg ws gn) (ht : DTs (Γ.blk scope) ifs test)
    (hi1 : DI (Γ.blk scope) tg1 iter1 it1) (hg1 : DGn (Γ.blk scope) tg1 ws1 gn1) (ht1 : DTs (Γ.blk scope) ifs1 test1) (he : DE (Γ.blk scope) elt el) (hy : Γ.N[j]? = some y := by rfl) (hyl : Γ.sc.names.lookup y = some .local := by rfl)
    (hsw : Γ.sc.kind = .function ∧ (py.line == pos.line) = true ∧ (scope.names.any fun (n, k) => n == y && (k == .local || k == .cell)) = false := by first | exact ⟨rfl, rfl, by decide +kernel⟩ | exact ⟨rfl, rfl, rfl⟩) (hv : own.map (·.2) = vs := by rfl) (hv1 : ∀ k ∈ vs1, k ∈ vs := by decide) (hw : ∀ k ∈ ws, k ∈ vs := by decide) (hw1 : ∀ k ∈ ws1, k ∈ vs1 := by decide) (hN : Γ.N.Nodup := by assumption)
    (hs : ∀ (env : PySem.Env) x, foldedSetIterable iter env x = pure x := by intro _ _; rfl) (hs1 : ∀ (env : PySem.Env) x, foldedSetIterable iter1 env x = pure x := by intro _ _; rfl) : DS Γ (.Assign [.Name y py] (.ListComp elt [⟨tg, iter, ifs, 0⟩, ⟨tg1, iter1, ifs1, 0⟩] scope pos) spos) (ownS j (lc2N it gn test it1 gn1 test1 el vs vs1)) := by
  obtain ⟨wi, p, q⟩ := hi.run
  obtain ⟨t, p1, q1⟩ := hg.run
  obtain ⟨u, p2, q2⟩ := ht.run
  obtain ⟨x, p3, q3⟩ := he.run
  obtain ⟨wi1, p4, q4⟩ := hi1.run
  obtain ⟨t1, p5, q5⟩ := hg1.run
  obtain ⟨u1, p6, q6⟩ := ht1.run
  subst hv
  have sn := snd_lc2 (vs := own.map (·.2)) q (fun B ρ F env st σ H v d Q env' S r e h => q1 B ρ F env st σ H v d Q env' S r e fun σ' S' o => h σ' S' (o.mono hw)) q2 q4 (fun B ρ F env st σ H v d Q env' S r e h => q5 B ρ F env st σ H v d Q env' S r e fun σ' S' o => h σ' S' (o.mono hw1)) q6 q3
  refine ⟨_, fun X m => ps_setLc2 (i := j) (vs1 := vs1) m.calm (by rw [m.N]; exact hN) (by rw [m.N]; exact hy) (by rw [m.sc]; exact hyl) (sw_true (by rw [m.sc]; exact hsw.1) (by rw [m.sc]; exact hyl) hsw.2.1 hsw.2.2) (p X m) (blkOk_by (by rw [m.N, m.sc]; exact ok)) hv1 (fun s H C cl fp => p1 _ (m.blk s H scope C cl fp)) (fun s H C cl fp => p2 _ (m.blk s H scope C cl fp)) (fun s H C cl fp => p4 _ (m.blk s H scope C cl fp)) (fun s H C cl fp => p5 _ (m.blk s H scope C cl fp)) (fun s H C cl fp => p6 _ (m.blk s H scope C cl fp)) (fun s H C cl fp => p3 _ (m.blk s H scope C cl fp)) (hs X.env) hs1, fun B ρ F env st σ H D S h => sn B ρ F env st σ H _ S ?_⟩
  unfold ownS at h
  cases hr : lc2N it gn test it1 gn1 test1 el (own.map (·.2)) vs1 env st with
  | no => rw [hr] at h; exact h
  | err c fs s => rw [hr] at h; exact fun ρ1 F1 H1 od S1 l1 e1 x => h ρ1 F1 σ H1 od S1 l1 e1 x
  | ok ds s =>
    rw [hr] at h
    intro ρ1 F1 H1 a vs S1 l1 e1 g1 g2 g3 g4 g5 g6
    exact h ρ1 F1 _ H1 (S1.setOwn g4 g5 (fun hlt => ⟨a, vs, by unfold OwnAt; rw [List.getElem?_set_self hlt], g2, g3, g1, g6⟩) rfl) l1 e1
end
end DL
namespace DL
open PySem PySem.Spec PyProof.Rows L2
/-! ### sum of a tuple of ints -/
section
variable {prog : Program} {w : World} {A : Around} {E : Value → Shared → Prop} {s : Shared} {l : Addr} {its : List Value} {ns : List Int} {Q : Value → Shared → Prop}
theorem sum_tupG {xs : Array (Int × Tok)} (hh : A.handled = none) (hl : s.heap.IsTuple l (intItems xs))
    (h : ∀ h' tk t', (∀ b o, s.heap.get? b = some o → h'.get? b = some o) → Q (.int (preSum (numAt xs) xs.size) t') { s with heap := h', toks := tk }) :
    wpAny (model prog w) A (call (.builtin "sum") [.ref l]) Q E s := by
  have hlt : l < s.heap.objs.size := by obtain ⟨_, e, _⟩ := hl; exact Heap.lt_size e
  refine call_sum_walkG (wpAny_pyIter_tuple hl ?_)
  refine ⟨_, _, _, _, _, _, numAt xs, rfl, Walks.tuple (A := A.in1) hh _ l (Nat.ne_of_lt hlt) (intItems xs), ⟨⟨_, Heap.get?_push_size _ rfl, rfl, rfl⟩, IsTup.push hl _⟩, fun b hb => ?_, (fun _ _ => intItems_at), fun h' tk t' hk => ?_⟩
  · rcases List.mem_cons.mp hb with rfl | hb
    · exact Heap.lt_size (Heap.get?_push_size _ rfl)
    · rcases List.mem_cons.mp hb with rfl | hb
      · exact (IsTup.push hl _).lt
      · cases hb
  · have := h h' tk t' fun b o e => hk b o (fun hm => by
      rcases List.mem_cons.mp hm with rfl | hm
      · exact absurd (Heap.lt_size e) (Nat.lt_irrefl _)
      · cases hm) (Heap.get?_push_of_some _ e)
    simpa [intItems] using this
theorem sum_tup_raw (hh : A.handled = none) (hl : IsTup s.heap l its.toArray) (hi : IntsAre its ns)
    (h : ∀ h' tk t', (∀ b o, s.heap.get? b = some o → h'.get? b = some o) → Q (.int ns.sum t') { s with heap := h', toks := tk }) : wpAny (model prog w) A (call (.builtin "sum") [.ref l]) Q E s := by
  obtain ⟨xs, e⟩ := hi.allInts.items
  have hn : numsOf (intItems xs).toList = ns := by rw [← e]; exact hi.numsOf
  rw [nums_intItems] at hn
  rw [e] at hl
  refine sum_tupG hh hl fun h' tk t' hk => ?_
  have := h h' tk t' hk
  rw [preSum_eq, List.take_of_length_le (by simp), hn]; exact this
end
def rSumT (K : PySem.W.Frag) : List V → Hp → VK → Prop := fun vs H Q => ∃ (a : Addr) (ns : List Int), vs = [V.ref a] ∧ SqT K H a (ns.map V.int) ∧ Q (.int ns.sum) H
theorem cr_sumT {X : Cx} (hc : X.calm = true) : CallR X (.builtin "sum") (rSumT X.K) := by
  intro pins s σ H vs us Q I r h
  obtain ⟨a, ns, rfl, hs, q⟩ := h
  obtain ⟨its, rv, hl, _⟩ := I.tuple hs
  rw [Vals.ref1 r]
  exact sum_tup_raw (I.ok.hd hc) hl rv.ints fun h' tk t' hk => ⟨.int _, H, I.kept hk, ⟨_, rfl⟩, q⟩
section
variable {Γ : Ga} {K : PySem.W.Frag} {E : WX}
def oSumT : OC := fun env st ds => match ds with
  | [.tup xs] => match intsD xs with
    | some ns => .ok (.int ns.sum) st
    | none => .no
  | _ => .no
theorem snd_sumT : SndC K E (rSumT K) oSumT := fun B ρ F env st σ H Q vs ds S q h => by
  unfold oSumT at h
  split at h
  · obtain ⟨v, rfl, r1⟩ := q.one
    obtain ⟨a, vs, rfl, h1, r2⟩ := r1.tup
    rename_i xs
    cases hx : intsD xs with
    | none => rw [hx] at h; exact h.elim
    | some ns =>
      rw [hx] at h
      cases intsD_ok hx r2
      exact ⟨a, ns, rfl, (sqU_mono S.so.sub h1).t, h.ret S (.inl (.int _))⟩
  · exact h.elim
theorem dc_sumT : DC Γ (.builtin "sum") oSumT := ⟨rSumT Γ.K, fun X m => by rw [← m.K]; exact cr_sumT m.calm, snd_sumT⟩
end
end DL
namespace DL
open PySem PySem.Spec PyProof.Rows L2
/-! ### t[::-1] of a tuple -/
section
variable {prog : Program} {w : World} {A : Around} {E : Value → Shared → Prop} {s : Shared}
theorem applied_back {sl : Addr} {vl vu vs : Value} {n : Nat} {Q : Int × Int × Nat → Shared → Prop} (hs : s.heap.IsSliceOf sl vl vu vs) (pl : IsPart vl none) (pu : IsPart vu none) (ps : IsPart vs (some (-1)))
    (h : Q ((n : Int) - 1, -1, n) s) : wpAny (model prog w) A (Builtin.Slice.sliceApplied (.ref sl) (pure (n : Int))) Q E s := by
  obtain ⟨os, hos, hcs, hds⟩ := id hs
  unfold Builtin.Slice.sliceApplied Builtin.Slice.sliceFields
  refine wpAny_bind (wpAny_bind (wpAny_field hos hds (x := vl) rfl (wpAny_bind (wpAny_field hos hds (x := vu) rfl (wpAny_bind (wpAny_field hos hds (x := vs) rfl (wpAny_pure ?_)))))))
  refine wpAny_bind (HT.slicePart_ ps ?_)
  show wpAny _ _ (if ((-1 : Int) == 0) = true then _ else _) _ _ s
  rw [if_neg (by decide)]
  refine wpAny_bind (HT.slicePart_ pl (wpAny_bind (HT.slicePart_ pu (wpAny_bind (wpAny_pure ?_)))))
  show wpAny _ _ (match Builtin.Slice.sliceAdjust none none (-1) (n : Int) with | (lo, hi) => pure (lo, (-1 : Int), Builtin.Slice.slicePlaces lo hi (-1))) _ _ s
  have e1 : Builtin.Slice.sliceAdjust none none (-1) (n : Int) = ((n : Int) - 1, -1) := by
    unfold Builtin.Slice.sliceAdjust
    simp
  have e2 : Builtin.Slice.slicePlaces ((n : Int) - 1) (-1) (-1) = n := by
    unfold Builtin.Slice.slicePlaces
    have h1 : ¬ ((-1 : Int) > 0) := by omega
    have h2 : -(-1 : Int) = 1 := rfl
    simp only [h1, if_false, h2, Int.ediv_one]
    split <;> omega
  rw [e1]
  show wpAny _ _ (pure ((n : Int) - 1, (-1 : Int), Builtin.Slice.slicePlaces ((n : Int) - 1) (-1) (-1))) _ _ s
  rw [e2]
  exact wpAny_pure h
theorem fm_congr {α β : Type} {f g : α → Option β} : ∀ l : List α, (∀ x ∈ l, f x = g x) → l.filterMap f = l.filterMap g
  | [], _ => rfl
  | a :: r, h => by rw [List.filterMap_cons, List.filterMap_cons, h a List.mem_cons_self, fm_congr r fun x hx => h x (List.mem_cons_of_mem _ hx)]
theorem pick_back (xs : Array Value) : ((List.range xs.size).filterMap fun (m : Nat) => xs[(((xs.size : Int) - 1) + (m : Int) * -1).toNat]?).toArray = xs.toList.reverse.toArray := by
  congr 1
  have e : (List.range xs.size).filterMap (fun (m : Nat) => xs[(((xs.size : Int) - 1) + (m : Int) * -1).toNat]?) = (List.range xs.size).filterMap fun m => some (xs.toList.reverse.getD m Value.none) := by
    refine fm_congr _ fun m hm => ?_
    have hm := List.mem_range.mp hm
    have e1 : (((xs.size : Int) - 1) + (m : Int) * -1).toNat = xs.size - 1 - m := by omega
    rw [e1]
    have h2 : xs.size - 1 - m < xs.size := by omega
    rw [Array.getElem?_eq_getElem h2]
    congr 1
    rw [List.getD_eq_getElem?_getD, List.getElem?_reverse (by simpa using hm)]
    simp [h2]
  rw [e, show (fun m => some (xs.toList.reverse.getD m Value.none)) = some ∘ fun m => xs.toList.reverse.getD m Value.none from rfl, List.filterMap_eq_map]
  apply List.ext_getElem?
  intro i
  by_cases h : i < xs.size
  · rw [List.getElem?_map, List.getElem?_range h]
    have h3 : i < xs.toList.reverse.length := by simpa using h
    rw [List.getElem?_eq_getElem h3, Option.map_some, List.getD_eq_getElem?_getD, List.getElem?_eq_getElem h3]
    rfl
  · rw [List.getElem?_eq_none (by simp; omega), List.getElem?_eq_none (by simp; omega)]
theorem item_back {t sl : Addr} {items : Array Value} {vl vu vs : Value} {Q : Value → Shared → Prop} (ht : IsTup s.heap t items) (hs : s.heap.IsSliceOf sl vl vu vs) (pl : IsPart vl none) (pu : IsPart vu none) (ps : IsPart vs (some (-1)))
    (h : Q (.ref s.heap.objs.size) { s with heap := s.heap.push { cls := .type "tuple", data := .seq items.toList.reverse.toArray } })
    (hsz : items.size ≤ sizeLine) : wpAny (model prog w) A (getItem (.ref t) (.ref sl)) Q E s := by
  have hfit : sizeOk (.seq items.toList.reverse.toArray) := by
    show items.toList.reverse.toArray.size ≤ sizeLine
    simpa using hsz
  obtain ⟨os, hos, hcs, hds⟩ := id hs
  have hTs : s.TypeIs (.ref sl) "slice" := ⟨os, hos, hcs⟩
  unfold getItem
  try with_reducible refine wpAny_holding ?_
  first | refine wpAny_bind (wpAny_pure ?_) | skip
  refine wpAny_bind (wpAny_sequenceKey ht.typeIs (by decide) ?_)
  refine wpAny_bind (wpAny_callSpecial?_slot (name := Str.ofString "__getitem__") ht.typeIs PyProof.Rows.slot_tuple_getitem
    (wpAny_call_entry PyProof.Rows.slot_tuple_getitem ht.typeIs entry_tuple_getitem ?_ (args_tuple_getitem _ _)))
  show wpAny _ _ (Builtin.Tuple.tupleItemsOf (.ref t) >>= _) _ _ s
  refine wpAny_bind (tupleItemsOf_ ht ?_)
  refine wpAny_bind (wpAny_typeOf hTs ?_)
  rw [if_pos (by decide)]
  refine wpAny_bind (applied_back hs pl pu ps ?_)
  have hno : ¬ ((((items.size : Int) - 1) == 0 && (-1 : Int) == 1 && items.size == items.size) = true) := by
    intro q
    rw [Bool.and_eq_true, Bool.and_eq_true] at q
    exact absurd (eq_of_beq q.1.2) (by decide)
  show wpAny _ _ (if (((items.size : Int) - 1) == 0 && (-1 : Int) == 1 && items.size == items.size) = true then _ else _) _ _ s
  rw [if_neg hno, pick_back]
  first
    | exact wpAny_bind (m := Builtin.Tuple.tupleExact _) (wpAny_newObj_type (wpAny_pure ⟨_, rfl, wpAny_pure h⟩) hfit)
    | exact wpAny_bind (m := Builtin.Tuple.tupleExact _) (wpAny_newObj_type (wpAny_bind (wpAny_pure (wpAny_pure ⟨_, rfl, wpAny_pure h⟩))) hfit)
    | exact wpAny_bind (wpAny_bind (m := Builtin.Tuple.tupleExact _) (wpAny_newObj_type (wpAny_pure (wpAny_pure ⟨_, rfl, wpAny_pure h⟩)) hfit))
    | exact wpAny_bind (wpAny_bind (m := Builtin.Tuple.tupleExact _) (wpAny_newObj_type (wpAny_pure ⟨_, rfl, wpAny_pure h⟩) hfit))
end
def tBack (K : PySem.W.Frag) (te : TE) : TE := fun σ H Q => te σ H fun x H1 => ∃ a xs, x = .ref a ∧ SqT K H1 a xs ∧ ∀ p, H1 p = none → Q (.ref p) (upd H1 p (.tup xs.reverse))
theorem pe_back {X : Cx} {e : Expr} {te : TE} {k : Nat} {p1 p2 p3 pos : Pos} (he : PE X e te) : PE X (.Subscript e (.Slice none none (some (.UnaryOp .USub (.Constant (.int 1) k p1) p2)) p3) pos) (tBack X.K te) := by
  refine ⟨fun pins s σ H Q I h => ?_⟩
  refine Subscript_ (thn (he.run pins s σ H _ I h) fun v s1 ⟨x, H1, I1, r1, q1⟩ => ?_)
  obtain ⟨a, xs, ex, hx, q⟩ := q1
  subst ex
  cases r1
  have hst : PO X (some (.UnaryOp .USub (.Constant (.int 1) k p1) p2)) (tPart (tUn (rU fun i => .int (-i)) (tC (.int 1)))) := po_some (pe_un un_neg pe_int)
  refine wpAny_Slice (thn (po_none.run pins s1 σ H1 (fun o H2 => o = none ∧ H2 = H1) I1 ⟨rfl, rfl⟩) fun vl s2 ⟨l, H2, I2, pl, el, e2⟩ => ?_)
  subst el e2
  refine thn (po_none.run pins s2 σ H2 (fun o H3 => o = none ∧ H3 = H2) I2 ⟨rfl, rfl⟩) fun vu s3 ⟨u, H3, I3, pu, eu, e3⟩ => ?_
  subst eu e3
  refine thn (hst.run pins s3 σ H3 (fun o H4 => o = some (-1) ∧ H4 = H3) I3 ⟨1, rfl, -1, rfl, rfl, rfl⟩) fun vs s4 ⟨o, H4, I4, ps, eo, e4⟩ => ?_
  subst eo e4
  have I5 : Inv X pins σ H4 { s4 with heap := s4.heap.push { cls := .type "slice", data := .fields #[vl, vu, vs] } } := I4.kept (t' := s4.toks) fun b ob q => Heap.get?_push_of_some _ q
  obtain ⟨its, r, ht, hz⟩ := I5.tuple hx
  have hlen := r.length
  show wpAny (model X.prog X.w) X.A (subscriptTail e (.Slice none none (some (.UnaryOp .USub (.Constant (.int 1) k p1) p2)) p3) (.ref a) (.ref s4.heap.objs.size)) (EP X pins σ Q) X.xe { s4 with heap := s4.heap.push { cls := .type "slice", data := .fields #[vl, vu, vs] } }
  refine tail_any (ops := [.ref a, .ref s4.heap.objs.size]) (IsTup.typeIs ht) (PyProof.Rows.slot_tuple_getitem.lookup) ?_ (by with_unfolding_all rfl)
  refine item_back ht (Heap.IsSliceOf.new _ vl vu vs) pl pu ps ?_ (by rw [List.size_toArray]; omega)
  refine ⟨.ref _, _, I5.laid (t' := s4.toks) (o := .tup xs.reverse) (fun b ob q => Heap.get?_push_of_some _ q) (Nat.le_refl _) ?_, rfl, q _ (I5.hok.fresh (Nat.le_refl _))⟩
  exact ⟨by rw [List.length_reverse]; exact hz, _, r.reverse, IsTup.new _ _⟩
section
variable {Γ : Ga} {K : PySem.W.Frag} {E : WX}
variable {a b c e : Expr} {fa fb fc : FE} {ga gb : FT} {pos p p1 p2 p3 : Pos} {rest es : List Expr} {fs : FA}
variable {B : Base} {ρ ρ' : List Addr} {F F' H H' : Hp} {env env' : Env} {st st' : Store} {σ σ' : L2.St} {v : V} {d : D}
theorem RpL.reverse {ρ : List Addr} {F : Hp} : ∀ {vs : List V} {ds : List D}, RpL K ρ F vs ds → RpL K ρ F vs.reverse ds.reverse
  | _, _, .nil => .nil
  | _, _, .cons h r => by
    rw [List.reverse_cons, List.reverse_cons]
    exact (RpL.reverse r).append (.cons h .nil)
def bkV (f : FE) : FE := fun env st => (f env st).bind fun d s => match d with
  | .tup xs => .ok (.tup xs.reverse) s
  | _ => .no
theorem de_back {k : Nat} (ha : DE Γ a fa) : DE Γ (.Subscript a (.Slice none none (some (.UnaryOp .USub (.Constant (.int 1) k p1) p2)) p3) pos) (bkV fa) := by
  obtain ⟨t, p, s⟩ := ha.run
  refine ⟨tBack Γ.K t, fun X m => ?_, fun B ρ F env st σ H Q S hq => s B ρ F env st σ H _ S (Out.bind hq fun d s1 ρ1 F1 H1 v S1 l1 e1 r1 h1 => ?_)⟩
  · have h := pe_back (k := k) (p1 := p1) (p2 := p2) (p3 := p3) (pos := pos) (p X m)
    rw [m.K] at h
    exact h
  · split at h1
    · obtain ⟨q, vs, rfl, g1, g2⟩ := r1.tup
      exact ⟨q, vs, rfl, (sqU_mono S1.so.sub g1).t, fun p hp => ret_tup S1 h1 g2.reverse hp⟩
    · exact h1.elim
/-! ### properties -/
structure CalP (P : Program) (w : World) (K : PySem.W.Frag) (mg : Str → Option Value) (base : Heap) (C : Addr) (f : Str) (k : Nat) (φ : Fn) : Prop where
  ex : ∃ pa g fd ps, PropOf K C f pa g ∧ FnOk P w K mg base (L2.CX P w) k g fd ps (spD K 1 φ) ∧ Binds K fd ps []
structure AtP (K : PySem.W.Frag) (C : Addr) (f qual : Str) (sd : Stmt) : Prop where
  ex : ∃ pa g fd, Fun K f qual sd g fd ∧ PropOf K C f pa g
theorem AtP.cal {P : Program} {w : World} {mg : Str → Option Value} {base : Heap} {C : Addr} {f qual : Str} {sd : Stmt} {N ps : List Str} {k : Nat} {body : FS} (A : AtP K C f qual sd) (Sc : FnScope N ps (defScope sd)) (h : ∀ E, DSs ⟨P, w, K, mg, base, N, defScope sd, fun _ => true, k, E⟩ (defBody sd) body) (hn : ps.length = 1)
    (hb : ∀ (kV doc pm : Value) (an : Option Addr) (cdv ct : Value) (us : List Value), us.length = ps.length → bindArgs (PySem.W.fnOf f qual (defArgs sd) (defBody sd) (defScope sd) .none kV doc pm an cdv ct) ⟨us, []⟩ = pure (ps.zip us)) : CalP P w K mg base C f (k + 1) (runF N.length body) := by
  obtain ⟨pa, g, fd, F, hp⟩ := A.ex
  have F1 := df_of (P := P) (w := w) (base := base) (mg := mg) F Sc h
  rw [hn] at F1
  exact ⟨pa, g, fd, ps, hp, F1, F.binds hb⟩
def prp (C : Addr) (φ : Fn) (f : FE) : FE := fun env st => (f env st).bind fun d s => match insD C s d with
  | some _ => if d.isSl = true then .no else noE (φ [d] s)
  | none => .no
theorem de_prop {C : Addr} {f : Str} {k : Nat} {φ : Fn} (G : CalP Γ.P Γ.w Γ.K Γ.mg Γ.base C f k φ) (hk : k + 1 ≤ Γ.k) (h : DE Γ a fa) (c : Cls Γ.K C) (hb : ∀ env : PySem.Env, attributeBase a f env (eval a env) = eval a env := by intro _; rfl) : DE Γ (.Attribute a f pos) (prp C φ fa) := by
  obtain ⟨pa, g, fd, ps, hp, F1, bi⟩ := G.ex
  obtain ⟨t, p, s⟩ := h.run
  refine ⟨tProp C (spD Γ.K 1 φ) [] E0 t, fun X m => ?_, fun B ρ F env st σ H Q S hq => s B ρ F env st σ H _ S (Out.bind hq fun d s1 ρ1 F1 H1 v S1 l1 e1 r1 h1 => ?_)⟩
  · exact pe_prop (pos := pos) (p X m) (by rw [m.K]; exact c) (by rw [m.K]; exact hp) (DF.at (Γ := Γ) F1 m) (m.room.mono hk) (by rw [m.K]; exact bi) .nil passL (hb X.env)
  · cases hx : insD C s1 d with
    | none => rw [hx] at h1; exact h1.elim
    | some x =>
      rw [hx] at h1
      obtain ⟨q, dx, fv, rfl, k1, k2, k3, _⟩ := insD_ok S1 r1 hx
      simp only at h1
      split at h1
      · exact h1.elim
      · rename_i hsl
        have r2 : Rp Γ.K ρ1 F1 (V.ref q) d := r1.rp (by simpa using hsl)
        refine ⟨q, dx, fv, rfl, k1, rfl, ρ1, F1, s1, [d], S1.so, .cons r2 .nil, ?_⟩
        refine OutE.fout (E := E0W) (B := B) (env := env) (σ := σ) S1 ?_
        cases hr : φ [d] s1 with
        | ok y s2 => rw [hr] at h1; exact h1
        | err c fs s2 => rw [hr] at h1; exact h1.elim
        | no => rw [hr] at h1; exact h1.elim
/-! ### in, of data in a list -/
def oInP (neg : Bool) : O2 := fun env st x y => match pyT env st x, pyT env st y with
  | some d, some (.list ds) => if SeqAt.shaped d = true ∧ SeqAt.shaped (.list ds) = true then .ok (.bl (if neg = true then !(ds.any fun z => PyData.eqv z d) else ds.any fun z => PyData.eqv z d)) st else .no
  | _, _ => .no
theorem do_inP : DO Γ (compareOp .In) (oInP false) := ⟨L2.rInD Γ.K, fun X m => by rw [← m.K]; exact op_inD (by have := m.room.un; omega), fun B ρ F env st σ H Q x y dx dy S rx ry h => by
  unfold oInP at h
  cases e1 : pyT env st dx with
  | none => rw [e1] at h; exact h.elim
  | some d =>
    cases e2 : pyT env st dy with
    | none => rw [e1, e2] at h; exact h.elim
    | some u =>
      rw [e1, e2] at h
      cases u with
      | list ds =>
        simp only at h
        split at h
        · rename_i hc
          exact ⟨d, ds, pyT_ok S rx e1, pyT_ok S ry e2, hc.1, hc.2, h.ret S (.inl (.bl _))⟩
        · exact h.elim
      | _ => exact h.elim⟩
/-! ### sorted of ints -/
def insI (a : Int) : List Int → List Int
  | [] => [a]
  | b :: r => if a ≤ b then a :: b :: r else b :: insI a r
def srtI : List Int → List Int
  | [] => []
  | a :: r => insI a (srtI r)
theorem insI_perm (a : Int) : ∀ l, (insI a l).Perm (a :: l)
  | [] => .refl _
  | b :: r => by
    unfold insI
    split
    · exact .refl _
    · exact ((insI_perm a r).cons b).trans (List.Perm.swap _ _ _)
theorem srtI_perm : ∀ l, (srtI l).Perm l
  | [] => .refl _
  | a :: r => (insI_perm a _).trans ((srtI_perm r).cons a)
theorem insI_srt (a : Int) : ∀ l : List Int, l.Pairwise (· ≤ ·) → (insI a l).Pairwise (· ≤ ·)
  | [], _ => by simp [insI]
  | b :: r, h => by
    obtain ⟨h1, h2⟩ := List.pairwise_cons.mp h
    unfold insI
    split
    · rename_i hab
      refine List.pairwise_cons.mpr ⟨fun x hx => ?_, h⟩
      rcases List.mem_cons.mp hx with rfl | hx
      · exact hab
      · have := h1 x hx; omega
    · rename_i hab
      refine List.pairwise_cons.mpr ⟨fun x hx => ?_, insI_srt a r h2⟩
      rcases List.mem_cons.mp ((insI_perm a r).mem_iff.mp hx) with rfl | hx
      · omega
      · exact h1 x hx
theorem srtI_srt : ∀ l : List Int, (srtI l).Pairwise (· ≤ ·)
  | [] => List.Pairwise.nil
  | a :: r => insI_srt a _ (srtI_srt r)
theorem srtI_uniq : ∀ {l m : List Int}, l.Pairwise (· ≤ ·) → m.Pairwise (· ≤ ·) → l.Perm m → l = m
  | [], m, _, _, h => (List.Perm.eq_nil h.symm).symm
  | a :: r, [], _, _, h => by cases h.length_eq
  | a :: r, b :: q, h1, h2, h => by
    obtain ⟨a1, a2⟩ := List.pairwise_cons.mp h1
    obtain ⟨b1, b2⟩ := List.pairwise_cons.mp h2
    have e : a = b := by
      have ha : a ∈ b :: q := h.mem_iff.mp List.mem_cons_self
      have hb : b ∈ a :: r := h.mem_iff.mpr List.mem_cons_self
      rcases List.mem_cons.mp ha with z | z
      · exact z
      · rcases List.mem_cons.mp hb with y | y
        · exact y.symm
        · have := b1 a z
          have := a1 b y
          omega
    subst e
    rw [srtI_uniq a2 b2 h.cons_inv]
def oSrtI : OC := fun env st ds => match ds with
  | [d] => match (seqL env st d).bind intsD with
    | some ns => if ns.length < 64 then .ok (.lst ((srtI ns).map .int)) st else .no
    | none => .no
  | _ => .no
theorem snd_sortI : SndC K E (rSorted K) oSrtI := fun B ρ F env st σ H Q vs ds S r h => by
  unfold oSrtI at h
  split at h
  · obtain ⟨v, rfl, r1⟩ := r.one
    split at h
    · rename_i ns hk
      obtain ⟨xs, h1, h2⟩ := Option.bind_eq_some_iff.mp hk
      obtain ⟨a, us, rfl, g0, g1⟩ := seqL_ok S r1 h1
      split at h
      · rename_i hl
        cases intsD_ok h2 g1
        refine ⟨a, ns, rfl, .inl (.inl g0), hl, fun ns' p hp hs hn => ?_⟩
        have e : ns' = srtI ns := srtI_uniq hs (srtI_srt ns) (hp.trans (srtI_perm ns).symm)
        subst e
        exact ret_lst S h (RpL.of_ints _) hn
      · exact h.elim
    · exact h.elim
  · exact h.elim
theorem dc_sortI : DC Γ (.builtin "sorted") oSrtI := ⟨rSorted Γ.K, fun X m => by rw [← m.K]; exact cr_sorted, snd_sortI⟩
end
end DL
/-! own exceptions whose __init__ says super().__init__(text) and then stores one field -/
namespace DL
open PySem PySem.Spec PyProof.Rows L2
abbrev veI : String := "ValueError.__init__"
/-- what such an __init__ says -/
def sxBody (m fld prm : Str) (j : Nat) (p0 p1 p2 p3 p4 p5 q1 q2 q3 q4 : Pos) : List Stmt :=
  [.Expr (.Call (.Attribute (.Call (.Name "super" p0) [] [] p1) "__init__" p2) [.Constant (.str m) j p3] [] p4) p5, .Assign [.Attribute (.Name "self" q1) fld q2] (.Name prm q3) q4]
structure SxFn (P : Program) (K : PySem.W.Frag) (C fI cc cda : Addr) (fld : Str) : Prop where
  ex : ∃ (oc : Value) (od : Option Addr) (params : Arguments) (scope : Scope) (qual prm m : Str) (j : Nat) (p0 p1 p2 p3 p4 p5 q1 q2 q3 q4 : Pos) (ar : Arg) (dV kV doc pm ct ccl cl : Value) (an cdd cld : Option Addr) (osl ccs csl : Array (Option Value)) (vs : Array Value) (file : Str) (tf : Tok) (pl : Sem Bool),
    K.lookup fI = some ⟨oc, od, .func (PySem.W.ksFn "__init__" qual params (sxBody m fld prm j p0 p1 p2 p3 p4 p5 q1 q2 q3 q4) scope dV kV doc pm an (.ref cda) ct cc), osl⟩ ∧ PySem.W.codeIn K (.ref cda) qual = true ∧
    K.lookup cc = some ⟨cl, cld, .cell (some (.ref C)), csl⟩ ∧ K.lookup cda = some ⟨ccl, cdd, .fields vs, ccs⟩ ∧ vs[2]? = some (.str file tf) ∧ (P.main.file == file) = true ∧
    scope.kind = .function ∧ scope.isCoroutine = false ∧ scope.isGenerator = false ∧ (∀ x ∈ scope.names, x.2 ≠ .cell) ∧ scope.names.lookup ("super" : Str) = some .globalImplicit ∧ scope.names.lookup ("__class__" : Str) = some .free ∧ scope.names.lookup ("self" : Str) = some .local ∧ scope.names.lookup prm = some .local ∧
    (params.posonlyargs ++ params.args).head? = some ar ∧ ar.arg = "self" ∧ prm ≠ "self" ∧ (prm == ("__debug__" : Str)) = false ∧
    (∀ env : PySem.Env, eval (.Call (.Attribute (.Call (.Name "super" p0) [] [] p1) "__init__" p2) [.Constant (.str m) j p3] [] p4) env = (do
      let ov ← attributeBase (.Call (.Name "super" p0) [] [] p1) "__init__" env (eval (.Call (.Name "super" p0) [] [] p1) env)
      standAt p2.atName
      let (f, first) ← holding [ov] (getMethod ov "__init__" pl)
      callWith p4 f first (backTo p4 (starEach [.Constant (.str m) j p3] env)) [])) ∧
    ∀ a b : Value, bindArgs (PySem.W.ksFn "__init__" qual params (sxBody m fld prm j p0 p1 p2 p3 p4 p5 q1 q2 q3 q4) scope dV kV doc pm an (.ref cda) ct cc) ⟨[a, b], []⟩ = pure [(("self" : Str), a), (prm, b)]
/-- what the written part says of such a class, at C, and of its __init__, at fI -/
structure SxTxt (P : Program) (K : PySem.W.Frag) (mg : Str → Option Value) (C fI : Addr) (x fld : Str) : Prop where
  gC : mg x = some (.ref C)
  cls : ∃ nm q N bs bm sn sub ab col dd k0 k1 k2 k3 k5, K.lookup C = some (excClassObj nm q C N bs bm true sn sub ab col dd k0 k1 k2 k3 k5 "ValueError.__new__") ∧ PySem.HandSPX.refsVE bm = true
  sa : PySem.W.findIn K (.ref C) "__setattr__" = some (some (.builtin "object.__setattr__"))
  noN : PySem.W.findIn K (.ref C) fld = some none
  iC : PySem.W.findIn K (.ref C) "__init__" = some (some (.ref fI))
  tC : PySem.W.typeIn K (.ref fI) = some (.type "function")
  kC : PySem.W.keepIn K (.ref C) = true
  exC : PySem.W.subIn K (.ref C) (.type "BaseException") = some true
  tyC : PySem.W.typeIn K (.ref C) = some (.type "type")
  sup : PySem.W.ks_superIn K C C "__init__" = some (some (.builtin veI))
  opq : PySem.W.nsIn K PySem.cStatics "thirdparty.any" = some none
  vE : PySem.W.subIn K (.ref C) (.type "ValueError") = some true
  slf : PySem.W.mroIn K C (.ref C) = some true
  noS : mg "super" = none
  top : (P.main.scope.names.lookup ("super" : Str)).isSome = false
  fn : ∃ cc cda, SxFn P K C fI cc cda fld
theorem sx_kept {K : PySem.W.Frag} {h h' : Heap} {x : Addr} (X : K.In h) (hx : K.lookup x = none) (k : ∀ b o, b ≠ x → h.get? b = some o → h'.get? b = some o) : K.In h' := fun a o e =>
  k a o (by rintro rfl; rw [hx] at e; cases e) (X a o e)
/-- what __init__ leaves of a fresh exception at x -/
structure SxEnd (h h' : Heap) (x C dx t1 : Addr) (fld : Str) (v : Value) : Prop where
  keep : ∀ b o, b ≠ x → h.get? b = some o → h'.get? b = some o
  obj : h'.get? x = some { cls := .ref C, dict := some dx, data := .fields #[.ref t1, .none, .none, .none, .bool false, .none] }
  dbig : h.objs.size ≤ dx
  dne : dx ≠ x
  ns : h'.Ns1 dx (fun y => if y = fld then some v else none)
section
variable {prog : Program} {w : World} {A : Around} {E : Value → Shared → Prop} {R : Result → Shared → Prop} {s : Shared} {K : PySem.W.Frag} {mg : Str → Option Value} {C fI : Addr} {nm fld : Str}
variable {h : Heap} {g : Array GenState} {d : Drawn} {t : Nat} {os : OsState}
/-- the bound __init__ of ValueError -/
theorem sx_super {q qn : Str} {N : Addr} {bs bm : List Value} {hdct : Bool} {sn : List Str} {sub : List Value} {ab : Bool} {col : Option Bool} {dd : Option Addr} {k0 k1 k2 k3 k5 : Option Value} {u e t0 : Addr} {rest : List Value} {Q : Value → Shared → Prop}
    (hC : h.get? C = some (excClassObj q qn C N bs bm hdct sn sub ab col dd k0 k1 k2 k3 k5 "ValueError.__new__")) (he : h.get? e = some (PySem.HandSPX.excO C t0)) (hu : h.get? u = some (PySem.W.kxs_mw veI e)) (hz : rest.length ≤ sizeLine)
    (hq : ∀ h' t1, (∀ b o, b ≠ e → h.get? b = some o → h'.get? b = some o) → h'.get? e = some (PySem.HandSPX.excO C t1) → Q .none ⟨h', g, d, t, os⟩) :
    wpAny (model prog w) A (call (.ref u) rest) Q E ⟨h, g, d, t, os⟩ := by
  have FB := F.excBase_ValueError
  refine wpAny_call (codeAny_of_tree ?_)
  show wpAny _ A.in1 (callAny (.ref u) ⟨rest, []⟩) _ _ _
  simp only [callAny]
  refine wpAny_bind (wpAny_load hu ?_)
  simp only [PySem.W.kxs_mw, show (Value.type "method-wrapper" == Value.type "method" || Value.type "method-wrapper" == Value.type "builtin_function_or_method" || Value.type "method-wrapper" == Value.type "method-wrapper") = true by decide, if_true]
  refine PySem.W.KFB.if_so (by decide) (wpAny_bind (PySem.W.check_bound_init FB.toExcCallFacts hC he rfl (wpAny_bind (wpAny_pure (wpAny_pure ⟨plainId_quiet FB.init.plain _, codeAny_builtin FB.initEntry ?_⟩)))))
  exact PySem.W.exc_init_tree (cls := .ref C) (t0 := t0) (dv := none) (c2 := .none) (c3 := .none) (b4 := .bool false) he hz fun h' k ex _ => hq h' _ k ex
theorem sx_init (T : SxTxt prog K mg C fI nm fld) {x t0 : Addr} {v : Value} (X : K.In s.heap) (hlim : s.heap.NoLimit) (G : s.heap.Ns mainGlobals mg) (Bl : ∃ mb, s.heap.Ns builtinsNs mb ∧ ∀ y : Str, y ≠ "__name__" → mb y = bootBuiltins y)
    (hx : s.heap.get? x = some (PySem.HandSPX.excO C t0)) (hnx : K.lookup x = none) (hroom : A.depth < recursionLimit)
    (hq : ∀ h' tk dx t1, SxEnd s.heap h' x C dx t1 fld v → R (.ok (.ret .none)) { s with heap := h', toks := tk }) :
    codeAny (model prog w) A (.call (.ref fI) ⟨[.ref x, v], []⟩) R s := by
  obtain ⟨cc, cda, ⟨oc, od, params, scope, qual, prm, m, j, p0, p1, p2, p3, p4, p5, q1, q2, q3, q4, ar, dV, kV, doc, pm, ct, ccl, cl, an, cdd, cld, osl, ccs, csl, vs, file, tf, pl, ho, hcd, hcc, hcda, hvs, hfile, hk, hco, hgen, hcell, hks, hkc, hka, hkp, hhead, har, hne, hdb, hev, hbind⟩⟩ := T.fn
  obtain ⟨nm', q, N, bs, bm, sn, sub, ab, col, dd, k0, k1, k2, k3, k5, hC, hbm⟩ := T.cls
  have hcl : PySem.W.clsIn K C = some { name := nm', bases := bs, mro := .ref C :: bm, ns := N, qualname := q, hasDict := true, slotNames := sn, subclasses := sub, abstract := ab, collection := col, hasDel := false } := by unfold PySem.W.clsIn; rw [hC] <;> rfl
  obtain ⟨hp, g, d, t, os⟩ := s
  obtain ⟨mb, hmb, hboot⟩ := Bl
  refine PySem.ks_codeAny_call_defAt (fd := PySem.W.ksFn "__init__" qual params (sxBody m fld prm j p0 p1 p2 p3 p4 p5 q1 q2 q3 q4) scope dV kV doc pm an (.ref cda) ct cc) (body := sxBody m fld prm j p0 p1 p2 p3 p4 p5 q1 q2 q3 q4) (binds := [("self", .ref x), (prm, v)]) hroom (X _ _ ho) rfl hlim (PySem.W.codeRec_of X hcd) rfl (BindsTo.of_eq (hbind _ _)) hcell ?hl (fun h₁ hns k₁ => ?_) hco hgen hk
  case hl =>
    intro y hy
    rcases List.mem_cons.mp hy with rfl | hy
    · exact hka
    · rcases List.mem_cons.mp hy with rfl | hy
      · exact hkp
      · cases hy
  have X₁ : K.In h₁ := X.keeps k₁
  have hx₁ := k₁ _ _ hx
  have hxL : hp.objs.size ≠ x := Nat.ne_of_gt (Heap.lt_size hx)
  have hxC : x ≠ C := by rintro rfl; rw [hnx] at hC; cases hC
  have hself : (fun y => ([("self", .ref x), (prm, v)] : List (Str × Value)).reverse.lookup y) "self" = some (.ref x) := by
    have e : (("self" : Str) == prm) = false := by simpa using Ne.symm hne
    simp [List.lookup, e]
  have hprm : (fun y => ([("self", .ref x), (prm, v)] : List (Str × Value)).reverse.lookup y) prm = some v := by
    simp [List.lookup]
  have hint : interactive (PySem.W.ksEnv qual scope hp.objs.size fI (.ref cda) cc) = false := by unfold interactive; rw [show (PySem.W.ksEnv qual scope hp.objs.size fI (.ref cda) cc).scope.kind = .function from hk]; rfl
  show PySem.wpAt (model prog w) (A.deeper (PySem.W.ksEnv qual scope hp.objs.size fI (.ref cda) cc)) (.func _ (PySem.W.ksEnv qual scope hp.objs.size fI (.ref cda) cc)) (execs _ (PySem.W.ksEnv qual scope hp.objs.size fI (.ref cda) cc)) _ _ _
  refine ks_wpAt_execs_cons (ks_wpAt_Expr_any (ks_wpAt_MethodCall ?_ (hev _)) hint)
  refine ks_wpAt_super_base (env := PySem.W.ksEnv qual scope hp.objs.size fI (.ref cda) cc) hks hkc (by decide) rfl (X₁ _ _ ho) rfl hhead rfl (X₁ _ _ hcda) rfl hvs hfile T.top ?_
  refine PySem.W.ks_loadName_global hk hks (Calls.loadGlobal_builtin (env := PySem.W.ksEnv qual scope hp.objs.size fI (.ref cda) cc) (G.keeps k₁) T.noS (hmb.keeps k₁) ((hboot _ (by decide)).trans (by first | boot_by_name | rfl | kernel_rfl)) ⟨rfl, ?_⟩)
  refine wpAny_loadName_free hk hkc rfl ⟨_, X₁ _ _ hcc, rfl⟩ ?_
  rw [har]
  refine wpAny_loadName_local hk hka hns hself ?_
  refine ks_wpAny_isType_cls (X₁ _ _ hC) rfl ⟨rfl, ?_⟩
  refine ks_wpAny_call_super (X₁ _ _ hC) rfl hx₁ rfl (fun c e => by cases e) (PySem.W.looks_mroIn X₁ T.slf) (fun h₂ hso k₂ => ?_)
  have X₂ : K.In h₂ := X₁.keeps k₂
  have hx₂ := k₂ _ _ hx₁
  have I₂ : PySem.W.InstAt h₂ x (PySem.HandSPX.excO C t0) C none := ⟨hx₂, rfl, rfl, trivial⟩
  have hsup : PySem.W.alongIn K "__init__" (((.ref C :: bm : List Value).dropWhile (· != .ref C)).drop 1) = some (some (.builtin veI)) := by
    have z := T.sup
    unfold PySem.W.ks_superIn at z
    rw [hcl] at z
    exact z
  refine PySem.W.kxs_getMethod PySem.W.kxs_ValueError hso (PySem.W.looks_opaque X₂ T.opq) (l₀ := .ref C :: bm) (fun A Q E s k q => wpAny_bind ((PySem.W.looks_clsIn X₂ hcl) A _ E s k (wpAny_pure q))) rfl X₂ hsup (I₂.type.andThen (PySem.W.looks_subIn X₂ T.vE)) hxC (by decide) ?_
  have k₃ : ∀ b o, h₂.get? b = some o → (h₂.push (PySem.W.kxs_mw veI x)).get? b = some o := fun b o e => Heap.get?_push_of_some _ e
  have hu₃ : (h₂.push (PySem.W.kxs_mw veI x)).get? h₂.objs.size = some (PySem.W.kxs_mw veI x) := Heap.get?_push_at rfl rfl
  refine PySem.W.kxs_callWith (i := veI) (x := x) rfl (Calls.evalArgs_plain (Calls.spliced_cons (Calls.Constant_str (k := j) (pos := p3) (Calls.spliced_nil ⟨hu₃, ?_⟩))))
  refine sx_super (t0 := t0) (X₂.keeps k₃ _ _ hC) (k₃ _ _ hx₂) hu₃ (by show 1 ≤ sizeLine; rw [sizeLine_eq]; omega) fun h₄ t1 k₄ hx₄ => ?_
  have X₄ : K.In h₄ := sx_kept (X₂.keeps k₃) hnx k₄
  have kk : ∀ b o, b ≠ x → h₁.get? b = some o → h₄.get? b = some o := fun b o hb e => k₄ b o hb (k₃ _ _ (k₂ _ _ e))
  have hns₄ : h₄.Ns hp.objs.size (fun y => ([("self", .ref x), (prm, v)] : List (Str × Value)).reverse.lookup y) := hns.at fun o e => kk _ o hxL e
  refine wpAt_of_wpAny (wpAny_execs_cons (plainObj_wpAny_Assign_Attribute ?_))
  refine PySem.ESX.ldL (env := PySem.W.ksEnv qual scope hp.objs.size fI (.ref cda) cc) hns₄ hprm (PySem.ESX.ldL (env := PySem.W.ksEnv qual scope hp.objs.size fI (.ref cda) cc) hns₄ hself ?_ hk hka) hk hkp hdb
  refine PySem.W.set_plain X₄ (ox := PySem.HandSPX.excO C t1) (od := none) ⟨hx₄, rfl, rfl, trivial⟩ T.sa ?_
  refine PySem.HandSPX.exc_osa X₄ hx₄ hcl (show PySem.HandSPX.refsVE (.ref C :: bm) = true from hbm) rfl T.noN (fun h₅ tk₅ dx k₅ dn dne hx₅ hn₅ => ?_)
  have z : hp.objs.size < h₄.objs.size := hns₄.lt
  exact wpAny_execs_nil (hq h₅ tk₅ dx t1 ⟨fun b o hb e => k₅ b o hb (kk b o hb (k₁ b o e)), hx₅, Nat.le_of_lt (Nat.lt_of_lt_of_le z dn), dne, hn₅⟩)
/-- a made one -/
structure SxMade (h h' : Heap) (e C d : Addr) (fld : Str) (v : Value) : Prop where
  keep : ∀ b o, h.get? b = some o → h'.get? b = some o
  new : h.objs.size ≤ e
  obj : ∃ oe vs, h'.get? e = some oe ∧ oe.cls = .ref C ∧ oe.dict = some d ∧ oe.data = .fields vs ∧ vs[1]? = some .none
  dbig : h.objs.size ≤ d
  dne : d ≠ e
  ns : h'.Ns1 d (fun y => if y = fld then some v else none)
theorem sx_made (T : SxTxt prog K mg C fI nm fld) {v : Value} (X : K.In s.heap) (hlim : s.heap.NoLimit) (G : s.heap.Ns mainGlobals mg) (Bl : ∃ mb, s.heap.Ns builtinsNs mb ∧ ∀ y : Str, y ≠ "__name__" → mb y = bootBuiltins y) (hroom : A.depth + 1 < recursionLimit)
    (hq : ∀ h' tk e d, SxMade s.heap h' e C d fld v → R (.ok (.ret (.ref e))) { s with heap := h', toks := tk }) : codeAny (model prog w) A (.call (.ref C) ⟨[v], []⟩) R s := by
  obtain ⟨nm', q, N, bs, bm, sn, sub, ab, col, dd, k0, k1, k2, k3, k5, hC, hbm⟩ := T.cls
  obtain ⟨hp, g, dr, tk, os⟩ := s
  have k : ∀ b o, hp.get? b = some o → ((hp.push (PySem.W.kdv_tup [v])).push (PySem.HandSPX.excO C hp.objs.size)).get? b = some o := fun b o e => Heap.get?_push_of_some _ (Heap.get?_push_of_some _ e)
  have hget : ((hp.push (PySem.W.kdv_tup [v])).push (PySem.HandSPX.excO C hp.objs.size)).get? (hp.objs.size + 1) = some (PySem.HandSPX.excO C hp.objs.size) := by heap_get
  have hnx : K.lookup (hp.objs.size + 1) = none := by
    cases e : K.lookup (hp.objs.size + 1) with
    | none => rfl
    | some o => exact absurd (Nat.lt_of_succ_lt (Heap.lt_size (show hp.get? (hp.objs.size + 1) = some o from X _ _ e))) (Nat.lt_irrefl _)
  obtain ⟨mb, b1, b2⟩ := Bl
  refine PySem.HandSPX.call_own F.excBase_ValueError (fun X => PySem.HandSPX.refsVE_contains X bm hbm) (X _ _ hC) (PySem.W.looks_findIn X T.iC) (fun self => PySem.W.bind_fn X self T.tC) (by show 1 ≤ sizeLine; rw [sizeLine_eq]; omega) ?_
  refine sx_init (s := ⟨(hp.push (PySem.W.kdv_tup [v])).push (PySem.HandSPX.excO C hp.objs.size), g, dr, tk, os⟩) T (X.keeps k) (hlim.keeps k) (G.keeps k) ⟨mb, b1.keeps k, b2⟩ hget hnx hroom fun h' tk' dx t1 ⟨k', hx, dn, dne, hns⟩ => ?_
  have old : ∀ b o, hp.get? b = some o → h'.get? b = some o := fun b o e => k' b o (Nat.ne_of_lt (Nat.lt_succ_of_lt (Heap.lt_size e))) (k b o e)
  have z : hp.objs.size + 1 + 1 ≤ dx := by
    first
      | (simpa only [Heap.size_push] using dn)
      | exact dn
      | (have q := dn; rw [Heap.size_push, Heap.size_push] at q; exact q)
  exact ⟨rfl, hq h' tk' (hp.objs.size + 1) dx ⟨old, Nat.le_succ _, ⟨_, _, hx, rfl, rfl, rfl, rfl⟩, Nat.le_trans (Nat.le_trans (Nat.le_succ _) (Nat.le_succ _)) z, dne, hns⟩⟩
end
theorem relO_one {v : V} {v' : Value} (r : RelV v v') (g f : Str) : RelO (List.lookup f [(g, v)]) (if f = g then some v' else none) := by
  by_cases h : f = g
  · subst h
    simp only [if_pos rfl, List.lookup, beq_self_eq_true]
    exact r
  · have e : (f == g) = false := by simpa using h
    simp only [if_neg h, List.lookup, e]
    trivial
section
variable {X : Cx} {C fI : Addr} {x fld : Str}
/-- X(e) -/
def tMkSx (C : Addr) (fld : Str) (ta : TA) : L2.St → Hp → XK → Prop := fun σ H Q => ta σ H fun vs H1 => ∃ v, vs = [v] ∧ ∀ d, H1 d = none → Q (.ref C) (some d) (upd H1 d (.xd [(fld, v)]))
theorem pmk_sx {a : Expr} {ta : TA} {p pos : Pos} {k : Nat} (T : SxTxt X.prog X.K X.mg C fI x fld) (hr : Room k X.A) (ha : PA X [a] ta) (hg : Gl X x) (hdb : (x == ("__debug__" : Str)) = false := by decide)
    (he : starEach (a :: []) X.env = (false, eval a X.env) :: starEach [] X.env := by rfl) (hpl : (backTo pos (starEach [] X.env)).any (·.1) = false := by rfl) : PMk X (.Call (.Name x p) [a] [] pos) (tMkSx C fld ta) := by
  intro pins s σ H Q I h
  refine wpAny_Call_Name_kw (ld_glob I hg T.gC ?_ hdb)
  refine PySem.W.callWith_K (h₀ := X.base) I.ok.mod.kin T.kC (thn (ha.run pos pins s σ H _ I h) fun us s1 hh => ?_) he hpl
  obtain ⟨vs, H1, J, r1, v, ev, q1⟩ := hh
  subst ev
  refine ⟨J.kIn, ?_⟩
  cases r1 with
  | cons rv rn =>
    rename_i v' us'
    cases rn
    show wpAny _ _ (call (.ref C) [v']) _ _ _
    have hlim := J.nolimit
    obtain ⟨mb, b1, b2⟩ := J.mod.blt
    have G1 := J.mod.glob.keeps J.bk
    have B1 := b1.keeps J.bk
    obtain ⟨hp, g, dr, tk, os⟩ := s1
    refine wpAny_call (sx_made T J.kIn hlim G1 ⟨mb, B1, b2⟩ (by have := hr.dp; omega) fun h' tk' e d M => ?_)
    show MkP X pins σ Q (.ref e) ⟨h', g, dr, tk', os⟩
    obtain ⟨oe, fv, hoe, hc, hd, hdat, h1⟩ := M.obj
    have hns := M.ns
    obtain ⟨G', g1, g2⟩ := restrict h' fun b => decide (b ≠ e)
    have gk : ∀ b, b ≠ e → G'.get? b = h'.get? b := fun b hb => g1 b (decide_eq_true hb)
    have ge : G'.get? e = none := g2 e (by simp)
    have old : ∀ b o, hp.get? b = some o → G'.get? b = some o := fun b o q => (gk b (Nat.ne_of_lt (Nat.lt_of_lt_of_le (Heap.lt_size q) M.new))).trans (M.keep b o q)
    have ob : ObjOk X.prog X.w (upd H1 d (.xd [(fld, v)])) G' d (.xd [(fld, v)]) := ⟨_, hns.at (fun o q => (gk d M.dne).trans q), fun f => relO_one rv fld f⟩
    have J2 : Inv X pins σ (upd H1 d (.xd [(fld, v)])) ⟨G', g, dr, tk', os⟩ := J.laid (t' := tk') old M.dbig ob
    refine ⟨e, oe, fv, ⟨G', g, dr, tk', os⟩, _, .ref C, some d, rfl, J2, fun b o q => ?_, ge, hoe, ⟨hc, hd⟩, hdat, h1, ?_, rfl, J.bare, raises_own T.exC T.tyC, q1 d (J.hok.fresh M.dbig)⟩
    · by_cases hb : b = e
      · subst hb
        rw [show G'.get? b = none from ge] at q
        cases q
      · exact (gk b hb).symm.trans q
    · rw [upd_ne (Ne.symm M.dne)]
      exact J.hok.fresh M.new
end
/-! ### X(), a class without own __init__ -/
structure S0Txt (K : PySem.W.Frag) (mg : Str → Option Value) (C : Addr) (x : Str) : Prop where
  gC : mg x = some (.ref C)
  exi : PySem.W.excIn K C [.type "Exception", .type "BaseException", .type "object"] "ValueError.__new__" = true ∨ PySem.W.excIn K C [.type "ValueError", .type "Exception", .type "BaseException", .type "object"] "ValueError.__new__" = true
  kC : PySem.W.keepIn K (.ref C) = true
  exC : PySem.W.subIn K (.ref C) (.type "BaseException") = some true
  tyC : PySem.W.typeIn K (.ref C) = some (.type "type")
section
variable {X : Cx} {C : Addr} {x : Str}
theorem pmk_s0 {p pos : Pos} {bmB : List Value} {B newId initId : String} (F : ExcBaseFacts B newId initId bmB) (q : PySem.W.excIn X.K C bmB newId = true) (gC : X.mg x = some (.ref C)) (kC : PySem.W.keepIn X.K (.ref C) = true) (r : Raises X (.ref C)) (hg : Gl X x) (hdb : (x == ("__debug__" : Str)) = false := by decide) :
    PMk X (.Call (.Name x p) [] [] pos) (fun _ H Q => Q (.ref C) none H) := by
  intro pins s σ H Q I h
  refine wpAny_Call_Name_kw (ld_glob I hg gC (PySem.W.callWith_K0 I.kIn kC ?_) hdb)
  obtain ⟨bm, N, nm, qn, bs, hdct, sn, sub, ab, col, dd, k0, k1, k2, k3, k5, mN, hC, hN, hni, T⟩ := exc_obj I.kIn q
  exact wpAny_call_exc_subT F T hC hN hni (fun h' e hm => mk_of I hm r h (I.hok.gone hm.new)) (by show 0 ≤ sizeLine; omega)
end
end DL
/-! raise; try with several clauses that name the error; what an except suite says of it -/
namespace PySem.W
open PySem PySem.Spec PySem.Calls PyProof.Rows
section
variable {prog : Program} {w : World} {A : Around} {E : Value → Shared → Prop} {s : Shared} {K : Frag} {x D : Addr} {ox : Obj} {od : Option Obj}
theorem dl_findO {C : Addr} {name : Str} {a g : Value} (hc : (clsIn K C).isSome = true) (ha : findIn K (.ref C) name = some (some a)) (hg : specialIn K a "__get__" = some (some g)) (ht : takesIn K a = some true) : findObj K C od name = some (.bind g a) := by
  obtain ⟨cd, hc⟩ := Option.isSome_iff_exists.mp hc
  unfold findObj
  rw [hc, Option.bind_some, ha, Option.bind_some]
  simp [hg, ht]
/-- error.__class__, whether or not the error has fields of its own -/
theorem dl_classE {Q : Option Value → Shared → Prop} (C : L2.ExcC K D) (X : K.In s.heap) (I : InstAt s.heap x ox D od) (h : Q (some (.ref D)) { s with toks := s.toks + 1 }) : wpAny (model prog w) A (getAttr? (.ref x) "__class__") Q E s := by
  have hf : findObj K D od "__class__" = some (.bind (.builtin "getset_descriptor.__get__") (.builtin "object.__class__")) := dl_findO (by obtain ⟨cd, hc, _⟩ := any_some C.hd; rw [hc]; rfl) C.ha C.hn C.ht
  obtain ⟨hp, g, d, t, os⟩ := s
  have la := I.type (M := model prog w)
  have lb := looks_findIn (M := model prog w) X C.hg
  have lc := looks_findIn (M := model prog w) X C.hk
  have le := looks_find (M := model prog w) X I hf
  have sub : Looks (model prog w) hp (isInstance (.ref x) (.type "BaseException")) true := la.andThen (looks_subIn X C.hs)
  have n0 : (false && onTheHeap (Value.builtin "BaseException.__getattribute__")) = false := rfl
  have n2 : (Value.builtin "BaseException.__getattribute__" == Value.builtin "object.__getattribute__") = false := by decide +kernel
  have n1 : (onTheHeap (Value.ref D) && Value.builtin "BaseException.__getattribute__" == Value.builtin "object.__getattribute__") = false := by rw [n2]; rfl
  unfold getAttr? getAttrBy? getAttrBy
  refine wpAny_bind (wpAny_mkText (wpAny_bind (wpAny_attempt (wpAny_holding (wpAny_bind (la.at (wpAny_bind (lb.at ?_))))))))
  show wpAny _ _ (if (onTheHeap (Value.ref D) && Value.builtin "BaseException.__getattribute__" == Value.builtin "object.__getattribute__") = true then _ else _) _ _ _
  rw [n1, if_neg Bool.false_ne_true]; unfold getAttrByItsOwn hookBefore; refine wpAny_bind ?_
  rw [if_pos (show onTheHeap (Value.ref D) = true from rfl)]; refine lc.at (wpAny_bind (wpAny_attempt (wpAny_holding ?_))); unfold callGetattribute
  rw [n0, if_neg Bool.false_ne_true]; unfold boundAndCalled
  rw [PySem.F.excAttr_ValueError.ga.bind (.ref x)]; refine wpAny_bind (wpAny_pure ?_)
  show wpAny _ _ (call (.builtin "BaseException.__getattribute__") [.ref x, .str "__class__" t]) _ _ _
  refine wpAny_call (codeAny_call_builtin PySem.F.excAttr_ValueError.ga.plain PySem.F.entry_bexc_ga (@check_slot (model prog w) _ _ ⟨hp, g, d, t + 1, os⟩ "BaseException.__getattribute__" "BaseException" "__getattribute__" (.ref x) [.str "__class__" t] [] _ (by decide +kernel) (by decide +kernel) sub (PySem.F.args_bexc_ga (.ref x) (.str "__class__" t)) ?_))
  unfold Builtin.«object.__getattribute__»; refine wpAny_bind (wpAny_of_eq (a := ((Value.ref x : Value), [Value.str "__class__" t])) (by first | rfl | (simp only [slotArgs]; rfl)) (wpAny_bind (wpAny_pure (wpAny_bind (la.at (wpAny_bind (le.at ?_)))))))
  show wpAny _ _ (holding [Value.builtin "object.__class__"] (call (.builtin "getset_descriptor.__get__") [.builtin "object.__class__", .ref x, .ref D]) >>= ret) _ _ _
  refine wpAny_bind (wpAny_holding (wpAny_call (class_get (s := ⟨hp, g, d, t + 1, os⟩) (ox := ox) (od := od) X I C.hm (wpAny_pure ?_)))); show wpAny _ _ (handedOut (.ref D)) _ _ _
  rw [handedOut_of (v := .ref D) rfl]
  first
    | exact wpAny_pure (wpAny_pure h)
    | exact wpAny_pure h
    | exact wpAny_pure (wpAny_bind (wpAny_pure (wpAny_pure h)))
theorem dl_kitE (C : L2.ExcC K D) : KitX K (.ref x) (.ref D) (fun h => InstAt h x ox D od) := by
  obtain ⟨cdD, hcD, _⟩ := any_some C.hd
  unfold clsIn at hcD
  split at hcD
  · rename_i c' d' cd' sl' ho
    refine ⟨fun _ _ _ I => I.type, fun _ _ X _ A' Q' E' s' k q => ?_, fun h tp dd its n sl X htp => Bool.eq_false_iff.mpr fun q => ?_, fun X I k => dl_classE C X I k⟩
    · unfold isType loadHead
      exact wpAny_bind (wpAny_loadPart (k _ _ (X _ _ ho)) (wpAny_pure q))
    · cases Value.ref.inj (beq_iff_eq.mp q)
      have z := (X _ _ ho).symm.trans htp
      cases z
  · cases hcD
end
end PySem.W
namespace L2
open PySem PySem.Spec PyProof.Rows
/-- isinstance(e, c), e the error that the suite holds, with or without fields -/
def rIsO (K : PySem.W.Frag) (D a : Addr) (d : Option Addr) : List V → Hp → VK → Prop := fun xs H Q => ∃ (c : V) (cv : Value) (b : Bool), xs = [.ref a, c] ∧ (∀ u, RelV c u → u = cv) ∧ PySem.W.kitOne K (.ref D) cv = some b ∧ (∀ dd, d = some dd → ∃ fs, H dd = some (.xd fs)) ∧ Q (.bl b) H
theorem call_isO {X : Cx} {a D : Addr} {oe : Obj} {d : Option Addr} {pn : List (Addr × Obj)} (C : ExcC X.K D) (hz : Zc (.ref D) d oe) (hf : ∃ vs, oe.data = .fields vs) : CallR (X.suite a ((a, oe) :: pn)) (.builtin "isinstance") (rIsO X.K D a d) := by
  intro pins s σ H xs us Q I r h
  obtain ⟨c, cv, b, rfl, hcv, e, hdd, q⟩ := h
  cases r with
  | cons rx rr =>
    cases rr with
    | cons rt rr =>
      cases rr
      cases rx
      cases hcv _ rt
      obtain ⟨hget, _⟩ := I.pin (a, oe) (List.mem_append.mpr (.inl List.mem_cons_self))
      obtain ⟨vs, hv⟩ := hf
      have J : ∃ od, PySem.W.InstAt s.heap a oe D od := by
        obtain ⟨h1, h2⟩ := hz
        have nc : PySem.W.notCls oe = true := by unfold PySem.W.notCls; rw [hv] <;> rfl
        cases d with
        | none => exact ⟨none, hget, h1, nc, by rw [h2]; trivial⟩
        | some dd =>
          obtain ⟨fs, hfs⟩ := hdd dd rfl
          obtain ⟨mA, hns, _⟩ := (show ObjOk X.prog X.w H s.heap dd (.xd fs) from I.hok dd _ hfs)
          obtain ⟨od, ho, _⟩ := lookIn_ns hns
          exact ⟨some od, hget, h1, nc, by rw [h2]; exact ho⟩
      obtain ⟨od, J⟩ := J
      exact PySem.W.kia_one (PySem.W.dl_kitE C) I.kIn J e (fun z => nomatch z) fun tk => ⟨.bl b, H, I.kept (t' := tk) fun _ _ z => z, rfl, q⟩
/-! ### several clauses, each with a name for the error -/
structure ClA where
  c : Value
  i : Nat
  ts : Addr → Value → Option Addr → TS
def offA (i : Nat) (D : Ends) : Ends := { nx := fun σ H => D.nx (σ.set i none) H, rt := D.rt, bk := fun σ H => D.bk (σ.set i none) H, ct := fun σ H => D.ct (σ.set i none) H }
def wManyA (K : PySem.W.Frag) (Wout : WX) (D : Ends) : List ClA → WX
  | [] => Wout
  | k :: r => fun cls d σ H => ∃ b, PySem.W.exmOne K cls k.c = some b ∧ (b = true → ∀ a, H a = none → k.ts a cls d (offA k.i D) (σ.set k.i (some (.ref a))) H) ∧ (b = false → wManyA K Wout D r cls d σ H)
inductive HdsA (X : Cx) : List ExceptHandler → List ClA → Prop
  | nil : HdsA X [] []
  | cons {x n : Str} {k : ClA} {b₀ : Stmt} {suite : List Stmt} {np pos' : Pos} {hds : List ExceptHandler} {l : List ClA} (hc : Names X x k.c) (hi : X.N[k.i]? = some n) (hln : X.env.kindOf n = some .local)
      (hsu : ∀ (a : Addr) (oe : Obj) (cls : Value) (d : Option Addr) (pn : List (Addr × Obj)), PySem.W.exmOne X.K cls k.c = some true → Zc cls d oe → (∃ vs, oe.data = .fields vs) → PSs (X.suite a ((a, oe) :: pn)) (b₀ :: suite) (k.ts a cls d)) (r : HdsA X hds l) :
      HdsA X (.ExceptHandler (some (.Name x np)) (some n) (b₀ :: suite) pos' :: hds) (k :: l)
section
variable {X : Cx} {body : List Stmt} {h₀ : ExceptHandler} {hds : List ExceptHandler} {l : List ClA} {pos : Pos} {tb : WX → TS} {Wout : WX}
theorem ps_try_manyA (hs : X.stack = X.env :: X.outer) (hf : X.env.frame = some X.env.locals) (hN : X.N.Nodup) (tk : Takes X Wout)
    (hb : ∀ (W : WX) (pn : List (Addr × Obj)) (xe : Value → Shared → Prop), Takes (X.tr pn xe) W → PassesOwn (model X.prog X.w) X.A X.env xe → PSs (X.tr pn xe) body (tb W)) (hh : HdsA X (h₀ :: hds) l) :
    PS X (.Try body (h₀ :: hds) [] [] pos) (fun D σ H => tb (wManyA X.K Wout D l) D σ H) := by
  refine ⟨fun pins s σ H D I h => wpAny_Try_except ?_⟩
  have ok := I.ok
  have hfr : X.A.frames = some (X.env :: X.outer) := by rw [ok.frames, hs]
  refine wpAny_mono ((hb (wManyA X.K Wout D l) (X.pn ++ pins) (fun e s₁ => wpAny (model X.prog X.w) X.A (noteFrame e X.env) (fun _ s₂ => wpAny (model X.prog X.w) X.A (setFlight e none) (fun _ s₃ => wpAny (model X.prog X.w) X.A (handleBy e X.env (h₀ :: hds)) (SP X pins D) X.xe s₃) X.xe s₂) X.xe s₁) (fun u s' xx => ?_) PassesOwn.looking).run [] s σ H D (I.toTry _) h) (fun f s1 hsp => ?_) (fun e s1 he => he)
  · obtain ⟨a, B, sI, pins', σ', H', cls, d, rfl, J', nb, up, sky, na, os, ag, w⟩ := xx
    have J : Inv X pins σ' H' sI := J'.ofTry ok
    have sky' : Sky B (X.env :: X.outer) a (Zc cls d) X.env.locals s'.heap := by rw [← hs]; exact sky
    show wpAny (model X.prog X.w) X.A (noteFrame (.ref a) X.env) _ _ _
    refine Sky.land Zc.steady hfr hf sky' fun h3 fl3 up3 => ?_
    have J3 : Inv X pins σ' H' { s' with heap := h3 } := J.landed nb fl3.1 (up.trans up3) os ag
    obtain ⟨oe3, vs3, he3, hz3, hd3⟩ := fl3.there
    have nfr : a ∉ frs (X.env :: X.outer) := fun hm => by
      obtain ⟨_, o', e', hnf⟩ := fl3.2.2.1.mem hm
      rw [he3] at e'; cases e'
      exact hnf _ hd3
    have nL : a ≠ X.env.locals := fun z => nfr (List.mem_filterMap.mpr ⟨X.env, List.mem_cons_self, by rw [hf, z]⟩)
    have nF : a ∉ X.fs := fun hm => by
      obtain ⟨e, he, q⟩ := List.mem_filterMap.mp hm
      exact nfr (List.mem_filterMap.mpr ⟨e, List.mem_cons_of_mem _ he, q⟩)
    have S3 := J3.suite he3 hd3 na nL nF
    have go : ∀ {hds' : List ExceptHandler} {l' : List ClA}, HdsA X hds' l' → wManyA X.K Wout D l' cls d σ' H' → wpAny (model X.prog X.w) X.A (handleBy (.ref a) X.env hds') (SP X pins D) X.xe { s' with heap := h3 } := by
      intro hds' l' hk
      induction hk with
      | nil =>
        intro w
        refine wpAny_handleBy_nil ?_
        obtain ⟨_, _, _, oe, vs, T, oT, ts', he, hz, hd, h1, hr⟩ := id fl3
        unfold PySem.passOn
        refine wpAny_bind (wpAny_field he hd h1 ?_)
        rw [if_neg (show ¬ ((Value.ref T == Value.none) = true) from by simp)]
        have fin : wpAny (model X.prog X.w) X.A (setFlight (.ref a) X.env.frame) (fun _ s4 => wpAny (model X.prog X.w) X.A (throw (.ref a) : Sem Flow) (SP X pins D) X.xe s4) X.xe { s' with heap := h3 } := by
          rw [hf]
          exact HandSPX.setFlight_upZ fl3 fun h4 hh4 up4 => wpAny_throw (tk _ _ ⟨a, B, sI, pins, σ', H', cls, d, rfl, J, nb, (up.trans up3).trans up4, .inr (.inr (by rw [hs]; exact hh4)), na, os, ag, w⟩)
        first
          | exact wpAny_bind (wpAny_pure (wpAny_bind fin))
          | exact wpAny_bind fin
      | @cons x n k b₀ suite np pos' hds2 l2 hc hi hln hsu r ih =>
        intro w
        obtain ⟨b, hb1, hyes, hno⟩ := w
        refine wpAny_handleBy_cons (codeAny_handlers_test ?_) (by intro q; cases q)
        have LT : PySem.W.Looks (model X.prog X.w) h3 (typeOf (.ref a)) cls := fun A Q E s k q => wpAny_typeOf_ref (k _ _ he3) (by rw [hz3.1]; exact q)
        have LM := PySem.W.exm_one (M := model X.prog X.w) (J3.kIn) LT hb1
        have test : ∀ {Q : Value → Shared → Prop} {E : Value → Shared → Prop}, Q k.c { s' with heap := h3 } → wpAny (model X.prog X.w) (X.A.mark (some (.ref a))) (eval (.Name x np) X.env) Q E { s' with heap := h3 } := fun {Q E} q => by
          obtain ⟨hg, hdbg, hm | ⟨hm, hv, hnn⟩⟩ := hc
          · exact ld_glob (X := X.suite a ((a, oe3) :: (X.pn ++ pins))) S3 hg hm q hdbg
          · exact ld_blt (X := X.suite a ((a, oe3) :: (X.pn ++ pins))) S3 hg hm hv q hnn hdbg
        refine test (LM.here ?_)
        cases b with
        | true =>
          refine codeAny_handlers_suite_as (HandSPX.lands_againZ fl3 fun h4 fl4 up4 => ?_)
          have J4 : Inv X pins σ' H' { s' with heap := h4 } := J.landed nb fl4.1 ((up.trans up3).trans up4) os ag
          obtain ⟨oe4, vs4, he4, hz4, hd4⟩ := fl4.there
          have S4 := J4.suite he4 hd4 na nL nF
          refine store_ok (X := X.suite a ((a, oe4) :: (X.pn ++ pins))) (v := .ref a) S4 hN hi (.inl hln) rfl (fun s5 S5 => ?_) (.inr hln)
          refine wpAny_mono ((hsu a oe4 cls d (X.pn ++ pins) hb1 hz4 ⟨_, hd4⟩).run [] s5 _ H' _ S5 (hyes rfl a na)) (fun f s6 hsp => ?_) (fun _ _ z => False.elim z)
          have end_ : ∀ {σ6 : St} {H6 : Hp} {Q : Shared → Prop}, Inv (X.suite a ((a, oe4) :: (X.pn ++ pins))) [] σ6 H6 s6 → (∀ s7, Inv X pins (σ6.set k.i none) H6 s7 → Q s7) → wpAny (model X.prog X.w) X.A (do bindName X.env n .none; unbindBehindTheSuite X.env n pos') (fun _ s7 => Q s7) X.xe s6 := fun {σ6 H6 Q} S6 hq => gone_ok (S6.unsuite ok) hN hi hln hq
          cases f with
          | next => obtain ⟨σ6, H6, S6, q6⟩ := hsp; exact end_ S6 fun s7 J7 => ⟨_, _, J7, q6⟩
          | brk => obtain ⟨σ6, H6, S6, q6⟩ := hsp; exact end_ S6 fun s7 J7 => ⟨_, _, J7, q6⟩
          | cont => obtain ⟨σ6, H6, S6, q6⟩ := hsp; exact end_ S6 fun s7 J7 => ⟨_, _, J7, q6⟩
          | ret u => obtain ⟨v6, σ6, H6, S6, r6, q6⟩ := hsp; exact end_ S6 fun s7 J7 => ⟨_, _, _, J7, r6, q6⟩
        | false =>
          show wpAny _ X.A (handleBy (.ref a) X.env hds2) _ _ _
          exact ih (hno rfl)
    exact go hh w
  · cases f with
    | next => obtain ⟨σ', H', J', q⟩ := hsp; exact wpAny_execs_nil ⟨σ', H', J'.ofTry ok, q⟩
    | brk => obtain ⟨σ', H', J', q⟩ := hsp; exact ⟨σ', H', J'.ofTry ok, q⟩
    | cont => obtain ⟨σ', H', J', q⟩ := hsp; exact ⟨σ', H', J'.ofTry ok, q⟩
    | ret u => obtain ⟨v, σ', H', J', r, q⟩ := hsp; exact ⟨v, σ', H', J'.ofTry ok, r, q⟩
end
end L2
namespace DL
open PySem PySem.Spec PyProof.Rows L2
section
variable {Γ : Ga} {K : PySem.W.Frag} {E : WX}
variable {a b c e x y : Expr} {es : List Expr} {fa : FE} {pos pos' pos2 p p2 : Pos}
variable {B : Base} {ρ ρ' : List Addr} {F F' H H' : Hp} {env env' : Env} {st st' : Store} {σ σ' : L2.St} {v : V} {d : D}
/-! ### raise -/
def raiseX (C : Addr) (fld : Str) (f : FE) : FS := fun env st => (f env st).toS env fun d s => if d.isSl = true then .no else .err C [(fld, d)] env s
def raise0 (C : Addr) : FS := fun env st => .err C [] env st
theorem ds_raiseX {n fld : Str} {C fI : Addr} (T : SxTxt Γ.P Γ.K Γ.mg C fI n fld) (h : DE Γ a fa) (hg : Γ.sc.names.lookup n = some .globalImplicit := by rfl) (hdb : (n == ("__debug__" : Str)) = false := by decide)
    (hs : ∀ env : PySem.Env, starEach (a :: []) env = (false, eval a env) :: starEach [] env := by intro _; rfl) (hpl : ∀ env : PySem.Env, (backTo pos (starEach [] env)).any (·.1) = false := by intro _; rfl) : DS Γ (.Raise (some (.Call (.Name n p) [a] [] pos)) none pos2) (raiseX C fld fa) := by
  obtain ⟨t, pa, sa⟩ := h.run
  refine ⟨fun _ σ H => tMkSx C fld (tCons t tNil) σ H fun cls d H' => Γ.E cls d σ H', fun X m => ps_raise m.calm m.tk (pmk_sx (by rw [m.P, m.K, m.mg]; exact T) m.room (pa_cons (pa X m) pa_nil (hs X.env)) (show X.env.kindOf n = _ by unfold Env.kindOf; rw [m.sc]; exact hg) hdb (hs X.env) (hpl X.env)), fun B ρ F env st σ H D S q => sa B ρ F env st σ H _ S (OutS.bind q fun d s1 ρ1 F1 H1 v S1 l1 e1 r1 h1 => ?_)⟩
  show ∃ w, [v] = [w] ∧ _
  split at h1
  · exact h1.elim
  · rename_i hs
    refine ⟨v, rfl, fun dx hd => h1 ρ1 F1 σ _ (some dx) (S1.more (same_new hd)) (.refl _) (.refl _) (.inr ⟨dx, _, rfl, upd_same, .cons (r1.rp (by simpa using hs)) .nil⟩)⟩
theorem ds_raise0 {n : Str} {C : Addr} {bmB : List Value} {Bs newId initId : String} (Fx : ExcBaseFacts Bs newId initId bmB) (q : PySem.W.excIn Γ.K C bmB newId = true) (gC : Γ.mg n = some (.ref C)) (kC : PySem.W.keepIn Γ.K (.ref C) = true) (r1 : PySem.W.subIn Γ.K (.ref C) (.type "BaseException") = some true) (r2 : PySem.W.typeIn Γ.K (.ref C) = some (.type "type"))
    (hg : Γ.sc.names.lookup n = some .globalImplicit := by rfl) (hdb : (n == ("__debug__" : Str)) = false := by decide) : DS Γ (.Raise (some (.Call (.Name n p) [] [] pos)) none pos2) (raise0 C) :=
  ⟨fun _ σ H => Γ.E (.ref C) none σ H, fun X m => ps_raise m.calm m.tk (pmk_s0 Fx (by rw [m.K]; exact q) (by rw [m.mg]; exact gC) (by rw [m.K]; exact kC) (raises_own (by rw [m.K]; exact r1) (by rw [m.K]; exact r2)) (show X.env.kindOf n = _ by unfold Env.kindOf; rw [m.sc]; exact hg) hdb), fun B ρ F env st σ H D S q => q ρ F σ H none S (.refl _) (.refl _) (.inl ⟨rfl, rfl⟩)⟩

/-! ### values in an except suite -/
abbrev UV := Addr → List (Str × D) → Option D
/-- a value that changes nothing; the error is slot i's, its class one of cs -/
structure DUv (Γ : Ga) (i : Nat) (cs : List Addr) (e : Expr) (f : UV) : Prop where
  run : ∃ t : Addr → Value → Option Addr → TE, (∀ X, Mt Γ X → ∀ C ∈ cs, ∀ a oe d pn, Zc (.ref C) d oe → (∃ vs, oe.data = .fields vs) → PE (X.suite a ((a, oe) :: pn)) e (t a (.ref C) d)) ∧
    ∀ C ∈ cs, ∀ a d fs B ρ F env st σ H Q x, Sim Γ.K B ρ F env st σ H → σ[i]? = some (some (.ref a)) → ExD Γ.K ρ F H d fs → f C fs = some x → (∀ v, Rp Γ.K ρ F v x → Q v H) → t a (.ref C) d σ H Q
variable {i : Nat} {cs : List Addr} {f g : UV}
def cU (d : D) : UV := fun _ _ => some d
theorem du_str {z : Str} {j} : DUv Γ i cs (.Constant (.str z) j pos) (cU (.str z)) := ⟨fun _ _ _ => tC (.str z), fun X m C hC a oe d pn hz hf => pe_str, fun C hC a d fs B ρ F env st σ H Q x S hi hx he q => by cases he; exact q _ (.str z)⟩
theorem du_non {j} : DUv Γ i cs (.Constant .none j pos) (cU .non) := ⟨fun _ _ _ => tC .non, fun X m C hC a oe d pn hz hf => pe_non, fun C hC a d fs B ρ F env st σ H Q x S hi hx he q => by cases he; exact q _ .non⟩
theorem du_int {z : Int} {j} : DUv Γ i cs (.Constant (.int z) j pos) (cU (.int z)) := ⟨fun _ _ _ => tC (.int z), fun X m C hC a oe d pn hz hf => pe_int, fun C hC a d fs B ρ F env st σ H Q x S hi hx he q => by cases he; exact q _ (.int z)⟩
def fU (fld : Str) : UV := fun _ fs => fs.lookup fld
theorem du_fld {n fld : Str} (T : ∀ C ∈ cs, XfC Γ.K C ∧ PySem.W.findIn Γ.K (.ref C) fld = some none) (hi : Γ.N[i]? = some n := by rfl) (hv : Vis Γ.sc n := by first | exact Or.inl rfl | exact Or.inr (Or.inl rfl) | exact Or.inr (Or.inr rfl)) (hd : (n == ("__debug__" : Str)) = false := by decide) (hcd : (n == ("__classdict__" : Str)) = false := by decide)
    (hb : ∀ env : PySem.Env, attributeBase (.Name n p) fld env (eval (.Name n p) env) = eval (.Name n p) env := by intro _; rfl) : DUv Γ i cs (.Attribute (.Name n p) fld pos) (fU fld) := by
  refine ⟨fun a cls d => match cls with | .ref C => tXf a (.ref C) d C fld (tVar i) | _ => fun _ _ _ => False, fun X m C hC a oe d pn hz hf => ?_, fun C hC a d fs B ρ F env st σ H Q x S hi hx he q => ?_⟩
  · exact pe_xf (X := X) (by rw [m.K]; exact (T C hC).1) (by rw [m.K]; exact (T C hC).2) hz hf (pe_var (X := X.suite a ((a, oe) :: pn)) (show X.N[i]? = _ by rw [m.N]; exact hi) (show Vis X.env.scope n by rw [m.sc]; exact hv) hd hcd) (hb X.env)
  · rcases hx with ⟨q1, q2⟩ | ⟨dx, fv, q1, q2, q3⟩
    · subst q1; cases he
    · obtain ⟨v, k1, k2⟩ := q3.get he
      exact ⟨_, hi, rfl, rfl, dx, fv, v, q1, q2, k1, q v k2⟩
/-- isinstance(error, W), W above each of the classes -/
theorem du_is {n w : Str} {W : Addr} (T : ∀ C ∈ cs, ExcC Γ.K C ∧ PySem.W.kitOne Γ.K (.ref C) (.ref W) = some true) (hW : Γ.mg w = some (.ref W)) (hmi : Γ.mg "isinstance" = none) (hgi : Γ.sc.names.lookup ("isinstance" : Str) = some .globalImplicit := by rfl) (hgw : Γ.sc.names.lookup w = some .globalImplicit := by rfl) (hdw : (w == ("__debug__" : Str)) = false := by decide) (hi : Γ.N[i]? = some n := by rfl) (hv : Vis Γ.sc n := by first | exact Or.inl rfl | exact Or.inr (Or.inl rfl) | exact Or.inr (Or.inr rfl)) (hd : (n == ("__debug__" : Str)) = false := by decide) (hcd : (n == ("__classdict__" : Str)) = false := by decide)
    (hbi : bootBuiltins "isinstance" = some (.builtin "isinstance") := by first | boot_by_name | rfl | kernel_rfl) : DUv Γ i cs (.Call (.Name "isinstance" p) [.Name n p2, .Name w pos'] [] pos) (cU (.bl true)) := by
  refine ⟨fun a cls d => match cls with | .ref C => tCB (rIsO Γ.K C a d) (tCons (tVar i) (tCons (tC (.ref W)) tNil)) | _ => fun _ _ _ => False, fun X m C hC a oe d pn hz hf => ?_, fun C hC a d fs B ρ F env st σ H Q x S hi hx he q => ?_⟩
  · have hc := call_isO (X := X) (pn := pn) (a := a) (by rw [m.K]; exact (T C hC).1) hz hf
    rw [m.K] at hc
    refine pe_callB hc (show X.env.kindOf "isinstance" = _ by unfold Env.kindOf; rw [m.sc]; exact hgi) (show X.mg "isinstance" = none by rw [m.mg]; exact hmi) hbi (pa_cons (pe_var (X := X.suite a ((a, oe) :: pn)) (show X.N[i]? = _ by rw [m.N]; exact hi) (show Vis X.env.scope n by rw [m.sc]; exact hv) hd hcd) (pa_cons (pe_glob (X := X.suite a ((a, oe) :: pn)) (show X.env.kindOf w = _ by unfold Env.kindOf; rw [m.sc]; exact hgw) (show X.mg w = some (.ref W) by rw [m.mg]; exact hW) rfl hdw) pa_nil))
  · cases he
    refine ⟨_, hi, .ref W, .ref W, true, rfl, fun u hu => hu, (T C hC).2, fun dd hdd => ?_, q _ (.bl true)⟩
    rcases hx with ⟨_, q2⟩ | ⟨dx, fv, q1, q2, _⟩
    · rw [q2] at hdd; cases hdd
    · rw [q1] at hdd; cases hdd; exact ⟨fv, q2⟩
/-! several of them -/
abbrev UA := Addr → List (Str × D) → Option (List D)
structure DUa (Γ : Ga) (i : Nat) (cs : List Addr) (es : List Expr) (f : UA) : Prop where
  run : ∃ t : Addr → Value → Option Addr → TA, (∀ X, Mt Γ X → ∀ C ∈ cs, ∀ a oe d pn, Zc (.ref C) d oe → (∃ vs, oe.data = .fields vs) → PA (X.suite a ((a, oe) :: pn)) es (t a (.ref C) d)) ∧
    ∀ C ∈ cs, ∀ a d fs B ρ F env st σ H Q xs, Sim Γ.K B ρ F env st σ H → σ[i]? = some (some (.ref a)) → ExD Γ.K ρ F H d fs → f C fs = some xs → (∀ vs, RpL Γ.K ρ F vs xs → Q vs H) → t a (.ref C) d σ H Q
def nilU : UA := fun _ _ => some []
def consU (f : UV) (g : UA) : UA := fun C fs => (f C fs).bind fun x => (g C fs).map fun xs => x :: xs
theorem dua_nil : DUa Γ i cs [] nilU := ⟨fun _ _ _ => tNil, fun X m C hC a oe d pn hz hf => pa_nil, fun C hC a d fs B ρ F env st σ H Q x S hi hx he q => by cases he; exact q _ .nil⟩
theorem dua_cons {g : UA} (h : DUv Γ i cs e f) (h' : DUa Γ i cs es g) (hs : ∀ env : PySem.Env, starEach (e :: es) env = (false, eval e env) :: starEach es env := by intro _; rfl) : DUa Γ i cs (e :: es) (consU f g) := by
  obtain ⟨t, p, s⟩ := h.run
  obtain ⟨u, q, r⟩ := h'.run
  refine ⟨fun a cls d => tCons (t a cls d) (u a cls d), fun X m C hC a oe d pn hz hf => pa_cons (p X m C hC a oe d pn hz hf) (q X m C hC a oe d pn hz hf) (hs X.env), fun C hC a d fs B ρ F env st σ H Q xs S hi hx he k => ?_⟩
  obtain ⟨x1, e1, he⟩ := Option.bind_eq_some_iff.mp he
  obtain ⟨x2, e2, he⟩ := Option.map_eq_some_iff.mp he
  subst he
  exact s C hC a d fs B ρ F env st σ H _ x1 S hi hx e1 fun v rv => r C hC a d fs B ρ F env st σ H _ x2 S hi hx e2 fun vs rvs => k _ (.cons rv rvs)
/-! what the suite stores -/
abbrev UE := Addr → List (Str × D) → Store → Res D
structure DUe (Γ : Ga) (i : Nat) (cs : List Addr) (e : Expr) (f : UE) : Prop where
  run : ∃ t : Addr → Value → Option Addr → TE, (∀ X, Mt Γ X → ∀ C ∈ cs, ∀ a oe d pn, Zc (.ref C) d oe → (∃ vs, oe.data = .fields vs) → PE (X.suite a ((a, oe) :: pn)) e (t a (.ref C) d)) ∧
    ∀ C ∈ cs, ∀ a d fs B ρ F env st σ H Q, Sim Γ.K B ρ F env st σ H → σ[i]? = some (some (.ref a)) → ExD Γ.K ρ F H d fs → OutE Γ.K E0W B ρ F env σ Q (f C fs st) → t a (.ref C) d σ H Q
def vU (f : UV) : UE := fun C fs st => match f C fs with
  | some d => .ok d st
  | none => .no
theorem due_v (h : DUv Γ i cs e f) : DUe Γ i cs e (vU f) := by
  obtain ⟨t, p, s⟩ := h.run
  refine ⟨t, p, fun C hC a d fs B ρ F env st σ H Q S hi hx q => ?_⟩
  unfold vU at q
  split at q
  · rename_i x he
    exact s C hC a d fs B ρ F env st σ H Q x S hi hx he fun v r => q.ret S (.inl r)
  · exact q.elim
def lU (g : UA) : UE := fun C fs st => match g C fs with
  | some xs => if xs.length ≤ 1000 then .ok (.lst xs) st else .no
  | none => .no
theorem due_lst {g : UA} (h : DUa Γ i cs es g) : DUe Γ i cs (.List es pos) (lU g) := by
  obtain ⟨t, p, s⟩ := h.run
  refine ⟨fun a cls d => tLst (t a cls d), fun X m C hC a oe d pn hz hf => pe_lst (p X m C hC a oe d pn hz hf), fun C hC a d fs B ρ F env st σ H Q S hi hx q => ?_⟩
  unfold lU at q
  split at q
  · rename_i xs he
    split at q
    · rename_i hl
      exact s C hC a d fs B ρ F env st σ H _ xs S hi hx he fun vs r => ⟨by rw [r.length, sizeLine_eq]; omega, fun p hp => ret_lst S q r hp⟩
    · exact q.elim
  · exact q.elim
def tU (g : UA) : UE := fun C fs st => match g C fs with
  | some xs => if xs.length ≤ 1000 then .ok (.tup xs) st else .no
  | none => .no
theorem due_tup {g : UA} {k : Nat} (h : DUa Γ i cs es g) : DUe Γ i cs (.Tuple es k pos) (tU g) := by
  obtain ⟨t, p, s⟩ := h.run
  refine ⟨fun a cls d => tTup (t a cls d), fun X m C hC a oe d pn hz hf => pe_tup (p X m C hC a oe d pn hz hf), fun C hC a d fs B ρ F env st σ H Q S hi hx q => ?_⟩
  unfold tU at q
  split at q
  · rename_i xs he
    split at q
    · rename_i hl
      exact s C hC a d fs B ρ F env st σ H _ xs S hi hx he fun vs r => ⟨by rw [r.length, sizeLine_eq]; omega, fun p hp => ret_tup S q r hp⟩
    · exact q.elim
  · exact q.elim
def iU (t : UV) (f g : UE) : UE := fun C fs st => match t C fs with
  | some (.bl b) => if b = true then f C fs st else g C fs st
  | _ => .no
theorem due_if {f1 f2 : UE} (hc : DUv Γ i cs c f) (ha : DUe Γ i cs x f1) (hb : DUe Γ i cs y f2) (he : ∀ (env : PySem.Env) whole, isTrue c env whole = (do let v ← whole; standAt c.pos; holding [v] (truthy v)) := by intro _ _; rfl) : DUe Γ i cs (.IfExp c x y pos) (iU f f1 f2) := by
  obtain ⟨t, p, s⟩ := hc.run
  obtain ⟨u, q, r⟩ := ha.run
  obtain ⟨u', q', r'⟩ := hb.run
  refine ⟨fun a cls d => tIf (tB (t a cls d)) (u a cls d) (u' a cls d), fun X m C hC a oe d pn hz hf => pe_ifExp (pt_val (p X m C hC a oe d pn hz hf) (he X.env)) (q X m C hC a oe d pn hz hf) (q' X m C hC a oe d pn hz hf), fun C hC a d fs B ρ F env st σ H Q S hi hx k => ?_⟩
  unfold iU at k
  split at k
  · rename_i b he
    refine s C hC a d fs B ρ F env st σ H _ _ S hi hx he fun v rv => ?_
    cases rv
    refine ⟨b, rfl, ?_⟩
    cases b with
    | true => exact r C hC a d fs B ρ F env st σ H Q S hi hx k
    | false => exact r' C hC a d fs B ρ F env st σ H Q S hi hx k
  · exact k.elim
/-! ### suites -/
abbrev US := Addr → List (Str × D) → FS
structure DUs (Γ : Ga) (i : Nat) (cs : List Addr) (ss : List Stmt) (g : US) : Prop where
  run : ∃ t : Addr → Value → Option Addr → TS, (∀ X, Mt Γ X → ∀ C ∈ cs, ∀ a oe d pn, Zc (.ref C) d oe → (∃ vs, oe.data = .fields vs) → PSs (X.suite a ((a, oe) :: pn)) ss (t a (.ref C) d)) ∧
    ∀ C ∈ cs, ∀ a d fs B ρ F env st σ H D, Sim Γ.K B ρ F env st σ H → σ[i]? = some (some (.ref a)) → ExD Γ.K ρ F H d fs → OutS Γ.K E0W B ρ F D (g C fs env st) → t a (.ref C) d D σ H
def setU (k : Nat) (f : UE) : US := fun C fs env st => (f C fs st).toS env fun d s => if d.isSl = true then .no else .nx (env.set k (.fz d)) s
theorem dus_set (k : Nat) {n : Str} {f : UE} (h : DUe Γ i cs e f) (hk : Γ.N[k]? = some n := by rfl) (hN : Γ.N.Nodup := by assumption) (hl : Γ.sc.names.lookup n = some .local := by rfl)
    (hs : ∀ env : PySem.Env, swapsWith e (some (.Name n pos')) pos.line env = pure false := by intro _; rfl) : DUs Γ i cs [.Assign [.Name n pos'] e pos] (setU k f) := by
  obtain ⟨t, p, s⟩ := h.run
  refine ⟨fun a cls d => tAsg (t a cls d) (gName k), fun X m C hC a oe d pn hz hf => pss_one (ps_set (X := X.suite a ((a, oe) :: pn)) (show X.N.Nodup by rw [m.N]; exact hN) (show X.N[k]? = _ by rw [m.N]; exact hk) (show Loc X.env.scope n by rw [m.sc]; exact .inl hl) (p X m C hC a oe d pn hz hf) (hs X.env) (.inr (show X.env.scope.names.lookup n = _ by rw [m.sc]; exact hl))), fun C hC a d fs B ρ F env st σ H D S hi hx q => s C hC a d fs B ρ F env st σ H _ S hi hx (OutS.bind q fun d s1 ρ1 F1 H1 v S1 l1 e1 r1 h1 => ?_)⟩
  split at h1
  · exact h1.elim
  · rename_i hsl
    exact h1 ρ1 F1 _ H1 (S1.set (r1.rp (by simpa using hsl))) (.refl _) (.refl _)
/-! ### try -/
abbrev Cl3 := Nat × List (Addr × Bool) × US
def yesC (dec : List (Addr × Bool)) : List Addr := (dec.filter (·.2)).map (·.1)
inductive DHs (Γ : Ga) : List ExceptHandler → List Cl3 → Prop
  | nil : DHs Γ [] []
  | cons {n w : Str} {c : Addr} {i : Nat} {dec : List (Addr × Bool)} {g : US} {b₀ : Stmt} {suite : List Stmt} {np pos' : Pos} {hds : List ExceptHandler} {l : List Cl3} (hm : Γ.mg w = some (.ref c)) (hg : Γ.sc.names.lookup w = some .globalImplicit) (hdw : (w == ("__debug__" : Str)) = false) (hi : Γ.N[i]? = some n) (hln : Γ.sc.names.lookup n = some .local)
      (hdec : ∀ p ∈ dec, PySem.W.exmOne Γ.K (.ref p.1) (.ref c) = some p.2) (hu : DUs Γ i (yesC dec) (b₀ :: suite) g) (r : DHs Γ hds l) : DHs Γ (.ExceptHandler (some (.Name w np)) (some n) (b₀ :: suite) pos' :: hds) ((i, dec, g) :: l)
def catchS : List Cl3 → Addr → List (Str × D) → FS
  | [], c, fs => fun env st => .err c fs env st
  | (i, dec, g) :: r, c, fs => fun env st => match dec.lookup c with
    | some true => if i < env.length then (match g c fs (env.set i .un) st with
      | .nx e s => .nx (e.set i .un) s
      | _ => .no) else .no
    | some false => catchS r c fs env st
    | none => .no
def tryS (f : FS) (hs : List Cl3) : FS := fun env st => match f env st with
  | .err c fs e s => catchS hs c fs e s
  | r => r
theorem pss_never {X : Cx} {ss : List Stmt} : PSs X ss (fun _ _ _ => False) := ⟨fun _ _ _ _ _ _ h => h.elim⟩
theorem Sim.off1 {w : Option V} (S : Sim K B ρ F env st σ H) : Sim K B ρ F (env.set i .un) st (σ.set i w) H := S.slots (by simp [S.len]) fun j s hj => by
  by_cases e : j = i
  · subst e
    rw [List.getElem?_set] at hj
    simp only [if_true] at hj
    split at hj
    · cases hj; exact .inr (.inl rfl)
    · cases hj
  · rw [List.getElem?_set_ne (Ne.symm e)] at hj
    exact .inl ⟨hj, List.getElem?_set_ne (Ne.symm e)⟩
theorem lookup_mem {c : Addr} {b : Bool} : ∀ {dec : List (Addr × Bool)}, dec.lookup c = some b → (c, b) ∈ dec
  | (c', b') :: r, h => by
    rw [List.lookup_cons] at h
    split at h
    · rename_i e
      cases h
      rw [beq_iff_eq] at e
      subst e
      exact List.mem_cons_self
    · exact List.mem_cons_of_mem _ (lookup_mem h)
open Classical in
theorem hds_ok {hds : List ExceptHandler} {hs : List Cl3} (h : DHs Γ hds hs) : ∃ l : List ClA, (∀ X, Mt Γ X → HdsA X hds l) ∧
    ∀ c fs B ρ F env st σ H D od, Sim Γ.K B ρ F env st σ H → ExD Γ.K ρ F H od fs → OutS Γ.K Γ.E B ρ F D (catchS hs c fs env st) → wManyA Γ.K Γ.E D l (.ref c) od σ H := by
  induction h with
  | nil => exact ⟨[], fun X m => .nil, fun c fs B ρ F env st σ H D od S hx q => q ρ F σ H od S (.refl _) (.refl _) hx⟩
  | @cons n w c i dec g b₀ suite np pos' hds l hm hg hdw hi hln hdec hu r ih =>
    obtain ⟨L, p, q⟩ := ih
    obtain ⟨t, p1, q1⟩ := hu.run
    refine ⟨⟨.ref c, i, fun a cls d => if ∃ C ∈ yesC dec, cls = .ref C then t a cls d else fun _ _ _ => False⟩ :: L, fun X m => .cons ⟨show X.env.kindOf w = _ by unfold Env.kindOf; rw [m.sc]; exact hg, hdw, .inl (by rw [m.mg]; exact hm)⟩ (by rw [m.N]; exact hi) (show X.env.kindOf n = _ by unfold Env.kindOf; rw [m.sc]; exact hln) (fun a oe cls d pn _ hz hf => ?_) (p X m), fun c0 fs B ρ F env st σ H D od S hx k => ?_⟩
    · by_cases hc : ∃ C ∈ yesC dec, cls = .ref C
      · simp only [if_pos hc]
        obtain ⟨C, h1, rfl⟩ := hc
        exact p1 X m C h1 a oe d pn hz hf
      · simp only [if_neg hc]
        exact pss_never
    · unfold catchS at k
      cases hd : dec.lookup c0 with
      | none => rw [hd] at k; exact k.elim
      | some b =>
        rw [hd] at k
        have hm0 := lookup_mem hd
        refine ⟨b, hdec _ hm0, fun hb a na => ?_, fun hb => ?_⟩
        · subst hb
          have hC : c0 ∈ yesC dec := List.mem_map.mpr ⟨_, List.mem_filter.mpr ⟨hm0, rfl⟩, rfl⟩
          simp only [if_pos (show ∃ C ∈ yesC dec, Value.ref c0 = .ref C from ⟨c0, hC, rfl⟩)]
          simp only at k
          split at k
          · rename_i hlt
            refine q1 c0 hC a od fs B ρ F (env.set i .un) st _ H _ S.off1 (by rw [List.getElem?_set_self (by rw [← S.len]; exact hlt)]) hx ?_
            cases hr : g c0 fs (env.set i .un) st with
            | nx e s =>
              rw [hr] at k
              exact fun ρ' F' σ' H' S' l' e' => k ρ' F' _ H' S'.off1 l' e'
            | _ => rw [hr] at k; exact k.elim
          · exact k.elim
        · subst hb
          exact q c0 fs B ρ F env st σ H D od S hx k
theorem ds_try {body : List Stmt} {fb : FS} {h₀ : ExceptHandler} {hds : List ExceptHandler} {hs : List Cl3} (hb : ∀ E, DSs { Γ with E := E } body fb) (hh : DHs Γ (h₀ :: hds) hs) (hf : Γ.fn "" = true := by rfl) (hN : Γ.N.Nodup := by assumption) : DS Γ (.Try body (h₀ :: hds) [] [] pos) (tryS fb hs) := by
  obtain ⟨l, p, q⟩ := hds_ok hh
  refine ⟨fun D σ H => Classical.choose (hb (wManyA Γ.K Γ.E D l)).run D σ H, fun X m => ?_, fun B ρ F env st σ H D S k => ?_⟩
  · have z := ps_try_manyA (X := X) (pos := pos) (tb := fun W => Classical.choose (hb W).run) (m.stk hf).1 (m.stk hf).2 (by rw [m.N]; exact hN) m.tk (fun W pn xe tk own => (Classical.choose_spec (hb W).run).1 (X.tr pn xe) ⟨m.P, m.w, m.K, m.mg, m.base, m.N, m.sc, m.fn, m.calm, m.room, own, tk, m.stk⟩) (p X m)
    rw [m.K] at z
    exact z
  · refine (Classical.choose_spec (hb (wManyA Γ.K Γ.E D l)).run).2 B ρ F env st σ H D S ?_
    unfold tryS at k
    cases hr : fb env st with
    | err c fs e s =>
      rw [hr] at k
      exact fun ρ' F' σ' H' od S' l' e' hx => q c fs B ρ' F' e s σ' H' D od S' hx (k.on l' e')
    | no => rw [hr] at k; exact k
    | nx _ _ => rw [hr] at k; exact k
    | bk _ _ => rw [hr] at k; exact k
    | ct _ _ => rw [hr] at k; exact k
    | rt _ _ => rw [hr] at k; exact k
end
end DL
namespace DL
theorem aN {α : Type} {p : α → Prop} : ∀ c ∈ ([] : List α), p c := fun _ h => by cases h
theorem aC {α : Type} {p : α → Prop} {a : α} {l : List α} (h : p a) (r : ∀ c ∈ l, p c) : ∀ c ∈ a :: l, p c := fun c hc => by
  rcases List.mem_cons.mp hc with rfl | hc
  · exact h
  · exact r c hc
theorem kit_up {K : PySem.W.Frag} {C W : PySem.Addr} (hi : PySem.W.isClsIn K W = true) (ht : PySem.W.typeIn K (.ref W) = some (.type "type")) (hs : PySem.W.subIn K (.ref C) (.ref W) = some true) : PySem.W.kitOne K (.ref C) (.ref W) = some true := by
  unfold PySem.W.kitOne
  split
  · rfl
  · unfold PySem.W.kitCls
    have h1 : (PySem.W.clsIn K W).isSome = true := hi
    simp only [h1, ht, Bool.true_and]
    exact hs
end DL
/-! an own class's __eq__ and __len__; isinstance against it -/
namespace L2
open PySem PySem.Spec PyProof.Rows
section
variable {X : Cx} {CX : CXT} {k : Nat} {C g : Addr} {fd : FuncData} {ps : List Str} {sp : Sp} {E : XK}
def rOwnI (K : PySem.W.Frag) (C : Addr) (sp : Sp) (E : XK) : R2 := fun x y H Q => ∃ a dx fs t, x = .ref a ∧ H a = some (.ins C dx fs) ∧ TyX K H y t ∧ PySem.W.notFirst K C t = true ∧ sp [x, y] H Q E
theorem op_ownI {op : CmpOp} (hop : ∀ a b, compareOp op a b = richCompare op a b) (hs : PySem.W.findIn X.K (.ref C) (cmpInfo op).2.1 = some (some (.ref g))) (hf : PySem.W.isFn X.K (.ref g) = true) (F : FnOk X.prog X.w X.K X.mg X.base CX k g fd ps sp) (hr : Room k X.A) (hb : Binds X.K fd ps []) (hx : Passes CX X E) : OpR X (compareOp op) (rOwnI X.K C sp E) := by
  intro pins s σ H x y v u Q I rx ry h
  obtain ⟨a, dx, fs, t, rfl, ha, ty, hn, q⟩ := h
  cases (show v = Value.ref a from rx)
  obtain ⟨mA, O, _⟩ := ins_get I.hok ha
  obtain ⟨od, J, _⟩ := O.look
  obtain ⟨P, Z, hp, _⟩ := kit_of I ry ty
  obtain ⟨m, hF⟩ := I.fr
  rw [hop]
  refine PySem.W.cmp_K (op := op) (tb := t) hr.units0 hF I.ok.mod.kin J (Z.ty _ _ I.kIn hp) hn hs hf (wpAny_mono (run_fn (us := [.ref a, u]) (vs := [.ref a, y]) (dvs := []) (ds := []) F hr hb .nil hx I (.cons rfl (.cons ry .nil)) q) (fun w s' z => ?_) fun _ _ x => x)
  obtain ⟨z', H', I', rz, qz⟩ := z
  exact SlX.cmpback rz ⟨z', H', I', rz, qz⟩
/-- len(o), o an instance of the class at C -/
def rLenI (C : Addr) (sp : Sp) (E : XK) : List V → Hp → VK → Prop := fun xs H Q => ∃ a dx fs, xs = [.ref a] ∧ H a = some (.ins C dx fs) ∧ sp [.ref a] H (fun v H' => ∃ n : Nat, n < 1000000 ∧ v = .int n ∧ Q v H') E
theorem call_lenI (hs : PySem.W.findIn X.K (.ref C) "__len__" = some (some (.ref g))) (hf : PySem.W.isFn X.K (.ref g) = true) (F : FnOk X.prog X.w X.K X.mg X.base CX k g fd ps sp) (hr : Room (k + 1) X.A) (hb : Binds X.K fd ps []) (hx : ∀ (H : Hp) (s : Shared) (e : Value) (s' : Shared), CX X.stack H s E e s' → False) : CallR X (.builtin "len") (rLenI C sp E) := by
  intro pins s σ H xs us Q I r h
  obtain ⟨a, dx, fs, rfl, ha, q⟩ := h
  cases r with
  | cons rv rn =>
    cases rn
    cases rv
    obtain ⟨mA, O, _⟩ := ins_get I.hok ha
    obtain ⟨od, J, _⟩ := O.look
    obtain ⟨m, hF⟩ := I.fr
    have hl : ([.ref a] : List Value).length = ps.length := by rw [← F.len _ _ _ _ q]; rfl
    have b := hb s [.ref a] I.kIn (by rw [List.append_nil]; exact hl)
    rw [List.append_nil] at b
    refine PySem.W.len_K hF I.ok.mod.kin J hs hf (wpAny_call (codeAny_mono (F.run X.A.in1 X.stack s H ⟨[.ref a], []⟩ [.ref a] [.ref a] _ E hr.in1 I.env0.in1 b (.cons rfl .nil) q) fun r s' hq => ?_))
    cases r with
    | error e => exact (hx _ _ _ _ hq).elim
    | ok fl =>
      cases fl with
      | ret u =>
        obtain ⟨v, H', I2, rv, n, hn, rfl, q⟩ := I.after hq
        obtain ⟨t, e⟩ := (show ∃ t, u = Value.int n t from rv)
        subst e
        refine ⟨⟨by omega, by omega⟩, ?_⟩
        exact ⟨.int n, H', I2.tok _, ⟨_, rfl⟩, q⟩
      | next => exact False.elim hq
      | brk => exact False.elim hq
      | cont => exact False.elim hq
end
end L2
namespace DL
open PySem PySem.Spec PyProof.Rows L2
section
variable {Γ : Ga} {K : PySem.W.Frag} {E : WX}
variable {a b c e : Expr} {fa fb : FE} {pos p : Pos}
variable {B : Base} {ρ ρ' : List Addr} {F F' H H' : Hp} {env env' : Env} {st st' : Store} {σ σ' : L2.St} {v : V} {d : D}
/-- a method that nobody calls by name -/
structure CalM (P : Program) (w : World) (K : PySem.W.Frag) (mg : Str → Option Value) (base : Heap) (C : Addr) (m : Str) (k n : Nat) (φ : Fn) : Prop where
  ex : ∃ g fd ps, PySem.W.findIn K (.ref C) m = some (some (.ref g)) ∧ PySem.W.isFn K (.ref g) = true ∧ PySem.W.keepIn K (.ref g) = true ∧ FnOk P w K mg base (L2.CX P w) k g fd ps (spD K n φ) ∧ Binds K fd ps []
structure AtM (K : PySem.W.Frag) (C : Addr) (f qual : Str) (sd : Stmt) : Prop where
  ex : ∃ g fd, Fun K f qual sd g fd ∧ PySem.W.findIn K (.ref C) f = some (some (.ref g)) ∧ PySem.W.isFn K (.ref g) = true
theorem AtM.cal {P : Program} {w : World} {mg : Str → Option Value} {base : Heap} {C : Addr} {f qual : Str} {sd : Stmt} {N ps : List Str} {k n : Nat} {body : FS} (A : AtM K C f qual sd) (Sc : FnScope N ps (defScope sd)) (h : ∀ E, DSs ⟨P, w, K, mg, base, N, defScope sd, fun _ => true, k, E⟩ (defBody sd) body) (hn : ps.length = n)
    (hb : ∀ (kV doc pm : Value) (an : Option Addr) (cdv ct : Value) (us : List Value), us.length = ps.length → bindArgs (PySem.W.fnOf f qual (defArgs sd) (defBody sd) (defScope sd) .none kV doc pm an cdv ct) ⟨us, []⟩ = pure (ps.zip us)) : CalM P w K mg base C f (k + 1) n (runF N.length body) := by
  obtain ⟨g, fd, Fu, h1, h2⟩ := A.ex
  have F1 := df_of (P := P) (w := w) (base := base) (mg := mg) Fu Sc h
  rw [hn] at F1
  exact ⟨g, fd, ps, h1, h2, Fu.kp, F1, Fu.binds hb⟩
/-- what is known of the class -/
structure IsC (K : PySem.W.Frag) (C : Addr) : Prop where
  own : OwnC K C
  ls : PySem.W.subIn K (.type "list") (.ref C) = some false
  tu : PySem.W.subIn K (.type "tuple") (.ref C) = some false
  ic : PySem.W.isClsIn K C = true
  ty : PySem.W.typeIn K (.ref C) = some (.type "type")
theorem IsC.tyIns (T : IsC K C) {a dx : Addr} {fv : List (Str × V)} (h : H a = some (.ins C dx fv)) : TyX K H (.ref a) (.ref C) := .base (.ins h T.own.cl T.own.ha T.own.hn T.own.ht T.own.hm)
theorem kit_no {t : String} (T : IsC K C) (h : PySem.W.subIn K (.type t) (.ref C) = some false) : PySem.W.kitOne K (.type t) (.ref C) = some false := by
  unfold PySem.W.kitOne
  rw [if_neg (by intro z; cases (beq_iff_eq.mp z))]
  unfold PySem.W.kitCls
  have h1 : (PySem.W.clsIn K C).isSome = true := T.ic
  simp only [h1, T.ty, Bool.true_and]
  exact h
theorem kit_self {C : Addr} : PySem.W.kitOne K (.ref C) (.ref C) = some true := by
  unfold PySem.W.kitOne
  rw [if_pos (by simp)]
/-- a list, a tuple, or an instance -/
def isC (C : Addr) (st : Store) : D → Option Bool
  | .lst _ => some false
  | .tup _ => some false
  | d => match insD C st d with
    | some _ => some true
    | none => none
def oIsC (C : Addr) : OC := fun _ st ds => match ds with
  | [d, .cls C'] => if C' = C then (match isC C st d with
    | some b => .ok (.bl b) st
    | none => .no) else .no
  | _ => .no
theorem isC_ok (T : IsC K C) (S : Sim K B ρ F env st σ H) (r : RpV K ρ F env σ v d) {bb : Bool} (h : isC C st d = some bb) : ∃ t, TyX K H v t ∧ PySem.W.kitOne K t (.ref C) = some bb ∧ PySem.W.notFirst K C t = true := by
  unfold isC at h
  split at h
  · cases h
    obtain ⟨q, _⟩ := tyD_ok S r rfl
    exact ⟨_, q, kit_no T T.ls, by unfold PySem.W.notFirst; rw [T.ls]; simp⟩
  · cases h
    obtain ⟨q, _⟩ := tyD_ok S r rfl
    exact ⟨_, q, kit_no T T.tu, by unfold PySem.W.notFirst; rw [T.tu]; simp⟩
  · split at h
    · rename_i x hx
      cases h
      obtain ⟨a, dx, fv, rfl, k1, _⟩ := insD_ok S r hx
      exact ⟨_, T.tyIns k1, kit_self, by unfold PySem.W.notFirst; simp⟩
    · cases h
theorem dc_isC {C : Addr} (T : IsC Γ.K C) : DC Γ (.builtin "isinstance") (oIsC C) := ⟨rIsi Γ.K, fun X m => by rw [← m.K]; exact call_isi, fun B ρ F env st σ H Q vs ds S r h => by
  unfold oIsC at h
  split at h
  · split at h
    · rename_i d _ hC
      subst hC
      obtain ⟨v, w, rfl, r1, r2⟩ := r.two
      split at h
      · rename_i b hb
        obtain ⟨t, q1, q2, _⟩ := isC_ok T S r1 hb
        have := r2.rp rfl
        cases this
        exact ⟨_, _, _, _, b, rfl, .own _, q1, q2, h.ret S (.inl (.bl _))⟩
      · exact h.elim
    · exact h.elim
  · exact h.elim⟩
/-- o == x by the own __eq__ -/
def oEqM (C : Addr) (φ : Fn) : O2 := fun env st x y => if noSl [x, y] = true then (match insD C st x, isC C st y with
  | some _, some _ => noE (φ [x, y] st)
  | _, _ => .no) else .no
theorem do_eqM {C : Addr} {k : Nat} {φ : Fn} (T : IsC Γ.K C) (G : CalM Γ.P Γ.w Γ.K Γ.mg Γ.base C "__eq__" k 2 φ) (hk : k ≤ Γ.k) : DO Γ (compareOp .Eq) (oEqM C φ) := by
  obtain ⟨g, fd, ps, h1, h2, h3, F1, bi⟩ := G.ex
  refine ⟨rOwnI Γ.K C (spD Γ.K 2 φ) E0, fun X m => ?_, fun B ρ F env st σ H Q x y dx dy S rx ry h => ?_⟩
  · have z := op_ownI (X := X) (C := C) (E := E0) (op := .Eq) (fun _ _ => rfl) (by rw [m.K]; exact h1) (by rw [m.K]; exact h2) (DF.at (Γ := Γ) F1 m) (m.room.mono hk) (by rw [m.K]; exact bi) passL
    rw [m.K] at z
    exact z
  · unfold oEqM at h
    split at h
    · rename_i hs
      simp only [noSl, Bool.and_eq_true, Bool.not_eq_true', Bool.and_true] at hs
      cases hx : insD C st dx with
      | none => rw [hx] at h; exact h.elim
      | some fs =>
        cases hy : isC C st dy with
        | none => rw [hx, hy] at h; exact h.elim
        | some bb =>
          rw [hx, hy] at h
          obtain ⟨a, d1, fv, rfl, k1, _⟩ := insD_ok S rx hx
          obtain ⟨t, q1, q2, q3⟩ := isC_ok T S ry hy
          refine ⟨a, d1, fv, t, rfl, k1, q1, q3, rfl, ρ, F, st, [dx, dy], S.so, .cons (rx.rp hs.1) (.cons (ry.rp hs.2) .nil), ?_⟩
          refine OutE.fout (E := E0W) (B := B) (env := env) (σ := σ) S ?_
          simp only at h
          cases hr : φ [dx, dy] st with
          | ok z s2 => rw [hr] at h; exact h
          | err c fs s2 => rw [hr] at h; exact h.elim
          | no => rw [hr] at h; exact h.elim
    · exact h.elim
/-- len of an own instance -/
def oLenM (C : Addr) (φ : Fn) : OC := fun env st ds => match ds with
  | [d] => if d.isSl = true then .no else match insD C st d with
    | some _ => match φ [d] st with
      | .ok (.int n) s => if 0 ≤ n ∧ n < 1000000 then .ok (.int n) s else .no
      | _ => .no
    | none => .no
  | _ => .no
theorem dc_lenM {C : Addr} {k : Nat} {φ : Fn} (G : CalM Γ.P Γ.w Γ.K Γ.mg Γ.base C "__len__" k 1 φ) (hk : k + 1 ≤ Γ.k) : DC Γ (.builtin "len") (oLenM C φ) := by
  obtain ⟨g, fd, ps, h1, h2, h3, F1, bi⟩ := G.ex
  refine ⟨rLenI C (spD Γ.K 1 φ) E0, fun X m => call_lenI (by rw [m.K]; exact h1) (by rw [m.K]; exact h2) (DF.at (Γ := Γ) F1 m) (m.room.mono hk) (by rw [m.K]; exact bi) (fun H s e s' h => ?_), fun B ρ F env st σ H Q vs ds S r h => ?_⟩
  · obtain ⟨_, _, _, _, _, _, _, _, _, _, _, _, z⟩ := h
    exact z.elim
  · unfold oLenM at h
    split at h
    · split at h
      · exact h.elim
      · rename_i d hsl
        obtain ⟨v, rfl, r1⟩ := r.one
        cases hx : insD C st d with
        | none => rw [hx] at h; exact h.elim
        | some fs =>
          rw [hx] at h
          obtain ⟨a, d1, fv, rfl, k1, _⟩ := insD_ok S r1 hx
          have r2 : Rp Γ.K ρ F (V.ref a) d := r1.rp (by simpa using hsl)
          refine ⟨a, d1, fv, rfl, k1, rfl, ρ, F, st, [d], S.so, .cons r2 .nil, ?_⟩
          simp only at h
          cases hr : φ [d] st with
          | no => rw [hr] at h; exact h.elim
          | err c fs s2 => rw [hr] at h; exact h.elim
          | ok z s2 =>
            rw [hr] at h
            cases z <;> simp only at h <;> try exact h.elim
            split at h
            · rename_i n hn
              intro ρ' F' H' v G' rv
              cases rv
              refine ⟨n.toNat, by omega, by rw [Int.toNat_of_nonneg hn.1], ?_⟩
              exact h ρ' F' H' (.int n) (S.grow G') G'.lg G'.fs (.inl (.int n))
            · exact h.elim
    · exact h.elim
theorem de_ccls {x : Str} {C : Addr} (hm : Γ.mg x = some (.ref C)) (hg : Γ.sc.names.lookup x = some .globalImplicit) (hd : (x == ("__debug__" : Str)) = false := by decide) : DE Γ (.Name x pos) (cst (.cls C)) := de_glob (v := .ref C) hg hm rfl (fun _ _ => .cls C) hd
end
end DL
/-! zip of a list and a tuple; zip of three tuples -/
namespace ZM
open PySem RZ
open PySem.Sem (wp)
section
variable {prog : Program} {w : World} {A : Around} {E : Value → Shared → Prop} {s : Shared}
theorem zipM_next_item {z TI TO i1 i2 l1 l2 : Addr} {k1 k2 : Nat} {xs ys : Array Value} {x y a b : Value} {Q : Value → Shared → Prop} (D : ZipApart z TI TO i1 i2 l1 l2)
    (hz : IsZip s.heap z TI TO .none) (hTI : IsPair s.heap TI (.ref i1) (.ref i2)) (hTO : IsPair s.heap TO a b)
    (h1 : s.heap.IsListIter i1 l1 k1) (h2 : s.heap.IsTupleIter i2 l2 k2) (hl1 : s.heap.IsList l1 xs) (hl2 : s.heap.IsTuple l2 ys) (hx : xs[k1]? = some x) (hy : ys[k2]? = some y)
    (hQ : ∀ h', IsZip h' z TI TO (rawInt s.heap.objs.size) → IsPair h' TO x y → h'.IsListIter i1 l1 (k1 + 1) → h'.IsTupleIter i2 l2 (k2 + 1) → IsPair h' s.heap.objs.size x y → h'.objs.size = s.heap.objs.size + 1 →
      (∀ c o, c ≠ z → c ≠ TO → c ≠ i1 → c ≠ i2 → s.heap.get? c = some o → h'.get? c = some o) → Q (.ref s.heap.objs.size) { s with heap := h' }) :
    wpAny (model prog w) A (Builtin.«zip.__next__» ⟨[.ref z], []⟩) (fun fin s' => ∃ v, fin = .done (.ret v) ∧ Q v s') E s := by
  show wpAny _ _ (field (.ref z) 2 >>= _) _ _ _
  refine wpAny_bind (wpAny_field hz rfl (x := .bool false) rfl ?_)
  show wpAny _ _ (field (.ref z) 3 >>= _) _ _ _
  refine wpAny_bind (wpAny_field hz rfl (x := .ref TI) rfl ?_)
  refine wpAny_bind (wpAny_seqItems hTI rfl ?_)
  show wpAny _ _ (Builtin.SmallTypes.ownedTupleIsFree (.ref z) >>= _) _ _ _
  refine wpAny_bind ?_
  unfold Builtin.SmallTypes.ownedTupleIsFree
  refine wpAny_bind (wpAny_field hz rfl (x := .none) rfl (wpAny_pure ?_))
  simp only [if_true]
  refine wpAny_bind (wpAny_rule ?_)
  refine wpAny_bind (wpAny_field hz rfl (x := .ref TO) rfl ?_)
  refine wpAny_bind (wpAny_setField_rec hz (by simp) fun h₁ hz₁ hs₁ => ?_)
  replace hz₁ : IsZip h₁ z TI TO .ellipsis := hz₁
  refine wpAny_bind ?_
  simp only [List.zipIdx_cons, List.zipIdx_nil, List.forIn_cons, List.forIn_nil]

  refine wpAny_bind (wpAny_bind (wpAny_onRaise ?_))
  show wpAny _ _ (Builtin.SmallTypes.nextOf (.ref i1) >>= _) _ _ _
  refine wpAny_bind (wpAny_nextOf_list_item (h1.extBut hs₁.extBut D.i1z) (hl1.extBut hs₁.extBut D.l1z) hx fun h₂ h1₂ hs₂ => wpAny_pure ?_)
  have hTO₂ : IsPair h₂ TO a b := hs₂.extBut _ _ D.TOi1 (hs₁.extBut _ _ D.TOz hTO)
  refine wpAny_bind (wpAny_seqItems hTO₂ rfl ?_)
  refine wpAny_bind (wpAny_updateSeq_pair hTO₂ fun h₃ hTO₃ hs₃ => ?_)
  replace hTO₃ : IsPair h₃ TO x b := hTO₃
  refine wpAny_bind (wpAny_letGo (wpAny_pure ?_))

  refine wpAny_bind (wpAny_bind (wpAny_onRaise ?_))
  show wpAny _ _ (Builtin.SmallTypes.nextOf (.ref i2) >>= _) _ _ _
  refine wpAny_bind (nextOf_tuple_item (((h2.extBut hs₁.extBut D.i2z).extBut hs₂.extBut D.i12.symm).extBut hs₃.extBut D.TOi2.symm)
    (((hl2.extBut hs₁.extBut D.l2z).extBut hs₂.extBut D.l2i1).extBut hs₃.extBut D.l2TO) hy fun h₄ h2₄ hs₄ => wpAny_pure ?_)
  have hTO₄ : IsPair h₄ TO x b := hs₄.extBut _ _ D.TOi2 hTO₃
  refine wpAny_bind (wpAny_seqItems hTO₄ rfl ?_)
  refine wpAny_bind (wpAny_updateSeq_pair hTO₄ fun h₅ hTO₅ hs₅ => ?_)
  replace hTO₅ : IsPair h₅ TO x y := hTO₅
  refine wpAny_bind (wpAny_letGo (wpAny_pure (wpAny_pure ?_)))

  refine wpAny_bind (wpAny_seqItems hTO₅ rfl ?_)
  refine wpAny_bind (wpAny_newTuple ?_)
  have hsz : h₅.objs.size = s.heap.objs.size := by rw [hs₅.1, hs₄.1, hs₃.1, hs₂.1, hs₁.1]
  have hz₅ : IsZip h₅ z TI TO .ellipsis := hs₅.extBut _ _ D.TOz.symm (hs₄.extBut _ _ D.i2z.symm (hs₃.extBut _ _ D.TOz.symm (hs₂.extBut _ _ D.i1z.symm hz₁)))
  have hk₅ : ∀ c o, c ≠ z → c ≠ TO → c ≠ i1 → c ≠ i2 → s.heap.get? c = some o → h₅.get? c = some o := fun c o c1 c2 c3 c4 e =>
    hs₅.extBut _ _ c2 (hs₄.extBut _ _ c4 (hs₃.extBut _ _ c2 (hs₂.extBut _ _ c3 (hs₁.extBut _ _ c1 e))))
  have h1₅ : h₅.IsListIter i1 l1 (k1 + 1) := ((h1₂.extBut hs₃.extBut D.TOi1.symm).extBut hs₄.extBut D.i12).extBut hs₅.extBut D.TOi1.symm
  have h2₅ : h₅.IsTupleIter i2 l2 (k2 + 1) := h2₄.extBut hs₅.extBut D.TOi2.symm
  have hzlt : z < h₅.objs.size := Heap.lt_size hz₅
  have hTOlt : TO < h₅.objs.size := Heap.lt_size hTO₅
  have hi1lt : i1 < h₅.objs.size := by obtain ⟨_, e, _⟩ := h1₅; exact Heap.lt_size e
  have hi2lt : i2 < h₅.objs.size := by obtain ⟨_, e, _⟩ := h2₅; exact Heap.lt_size e
  show wpAny _ _ (Builtin.SmallTypes.ownedTupleHandOut (.ref z) (.ref h₅.objs.size) >>= _) _ _ _
  refine wpAny_bind ?_
  unfold Builtin.SmallTypes.ownedTupleHandOut
  have hz₆ : IsZip (h₅.push { cls := .type "tuple", data := .seq #[x, y] }) z TI TO .ellipsis := Heap.get?_push_of_some _ hz₅
  refine wpAny_bind (wpAny_setField_rec hz₆ (by simp) fun h₇ hz₇ hs₇ => ?_)
  replace hz₇ : IsZip h₇ z TI TO (rawInt h₅.objs.size) := hz₇
  refine wpAny_setField_rec hz₇ (by simp) fun h₈ hz₈ hs₈ => ?_
  replace hz₈ : IsZip h₈ z TI TO (rawInt h₅.objs.size) := hz₈
  have up : ∀ c o, c ≠ z → h₅.get? c = some o → h₈.get? c = some o := fun c o c1 e => hs₈.extBut _ _ c1 (hs₇.extBut _ _ c1 (Heap.get?_push_of_some _ e))
  have hT₈ : IsPair h₈ h₅.objs.size x y := hs₈.extBut _ _ (Nat.ne_of_gt hzlt) (hs₇.extBut _ _ (Nat.ne_of_gt hzlt) (Heap.get?_push_size _ rfl))
  have hz8 : h₈.objs.size = h₅.objs.size + 1 := by rw [hs₈.1, hs₇.1, Heap.size_push]
  rw [hsz] at hz₈ hT₈ hz8
  refine wpAny_pure ⟨_, rfl, ?_⟩
  show Q (.ref h₅.objs.size) _
  rw [hsz]
  exact hQ h₈ hz₈ (up _ _ D.TOz hTO₅) (h1₅.at fun o e => up _ o D.i1z e) (h2₅.at fun o e => up _ o D.i2z e) hT₈ hz8 fun c o c1 c2 c3 c4 e => up c o c1 (hk₅ c o c1 c2 c3 c4 e)

theorem zipM_next_end {z TI TO i1 i2 l1 l2 : Addr} {k1 k2 : Nat} {xs ys : Array Value} {a b : Value} {Q : Fin → Shared → Prop} (hh : A.handled = none) (D : ZipApart z TI TO i1 i2 l1 l2)
    (hz : IsZip s.heap z TI TO .none) (hTI : IsPair s.heap TI (.ref i1) (.ref i2)) (hTO : IsPair s.heap TO a b)
    (h1 : s.heap.IsListIter i1 l1 k1) (h2 : s.heap.IsTupleIter i2 l2 k2) (hl1 : s.heap.IsList l1 xs) (hl2 : s.heap.IsTuple l2 ys) (hend : xs[k1]? = none ∨ ys[k2]? = none)
    (hE : ∀ h' e, (∀ c o, c ≠ z → c ≠ TO → c ≠ i1 → c ≠ i2 → s.heap.get? c = some o → h'.get? c = some o) → (∃ o, h'.get? e = some o ∧ o.cls = .type "StopIteration") → E (.ref e) { s with heap := h' }) :
    wpAny (model prog w) A (Builtin.«zip.__next__» ⟨[.ref z], []⟩) Q E s := by
  show wpAny _ _ (field (.ref z) 2 >>= _) _ _ _
  refine wpAny_bind (wpAny_field hz rfl (x := .bool false) rfl ?_)
  show wpAny _ _ (field (.ref z) 3 >>= _) _ _ _
  refine wpAny_bind (wpAny_field hz rfl (x := .ref TI) rfl ?_)
  refine wpAny_bind (wpAny_seqItems hTI rfl ?_)
  show wpAny _ _ (Builtin.SmallTypes.ownedTupleIsFree (.ref z) >>= _) _ _ _
  refine wpAny_bind ?_
  unfold Builtin.SmallTypes.ownedTupleIsFree
  refine wpAny_bind (wpAny_field hz rfl (x := .none) rfl (wpAny_pure ?_))
  simp only [if_true]
  refine wpAny_bind (wpAny_rule ?_)
  refine wpAny_bind (wpAny_field hz rfl (x := .ref TO) rfl ?_)
  refine wpAny_bind (wpAny_setField_rec hz (by simp) fun h₁ hz₁ hs₁ => ?_)
  replace hz₁ : IsZip h₁ z TI TO .ellipsis := hz₁
  refine wpAny_bind ?_
  simp only [List.zipIdx_cons, List.zipIdx_nil, List.forIn_cons, List.forIn_nil]
  refine wpAny_bind (wpAny_bind (wpAny_onRaise ?_))
  show wpAny _ _ (Builtin.SmallTypes.nextOf (.ref i1) >>= _) _ _ _
  cases hx : xs[k1]? with
  | none =>
    refine wpAny_bind (wpAny_nextOf_list_end hh (h1.extBut hs₁.extBut D.i1z) (hl1.extBut hs₁.extBut D.l1z) hx fun h₂ e hs₂ he => ?_)
    obtain ⟨oe, hoe, hce⟩ := he
    have hz₂ : IsZip h₂ z TI TO .ellipsis := hs₂ _ _ D.i1z.symm hz₁
    have hez : e ≠ z := fun x => by subst x; rw [hz₂] at hoe; cases hoe; simp at hce
    refine wpAny_setField_rec hz₂ (by simp) fun h₃ _ hs₃ => hE h₃ e (fun c o c1 _ c3 _ x => hs₃.extBut _ _ c1 (hs₂ _ _ c3 (hs₁.extBut _ _ c1 x))) ⟨oe, hs₃.extBut _ _ hez hoe, hce⟩
  | some x =>
    have hy : ys[k2]? = none := by rcases hend with h | h; rw [hx] at h; cases h; exact h
    refine wpAny_bind (wpAny_nextOf_list_item (h1.extBut hs₁.extBut D.i1z) (hl1.extBut hs₁.extBut D.l1z) hx fun h₂ h1₂ hs₂ => wpAny_pure ?_)
    have hTO₂ : IsPair h₂ TO a b := hs₂.extBut _ _ D.TOi1 (hs₁.extBut _ _ D.TOz hTO)
    refine wpAny_bind (wpAny_seqItems hTO₂ rfl ?_)
    refine wpAny_bind (wpAny_updateSeq_pair hTO₂ fun h₃ hTO₃ hs₃ => ?_)
    refine wpAny_bind (wpAny_letGo (wpAny_pure ?_))
    refine wpAny_bind (wpAny_bind (wpAny_onRaise ?_))
    show wpAny _ _ (Builtin.SmallTypes.nextOf (.ref i2) >>= _) _ _ _
    refine wpAny_bind (nextOf_tuple_end hh (((h2.extBut hs₁.extBut D.i2z).extBut hs₂.extBut D.i12.symm).extBut hs₃.extBut D.TOi2.symm)
      (((hl2.extBut hs₁.extBut D.l2z).extBut hs₂.extBut D.l2i1).extBut hs₃.extBut D.l2TO) hy fun h₄ e hs₄ he => ?_)
    obtain ⟨oe, hoe, hce⟩ := he
    have hz₄ : IsZip h₄ z TI TO .ellipsis := hs₄ _ _ D.i2z.symm (hs₃.extBut _ _ D.TOz.symm (hs₂.extBut _ _ D.i1z.symm hz₁))
    have hez : e ≠ z := fun x => by subst x; rw [hz₄] at hoe; cases hoe; simp at hce
    refine wpAny_setField_rec hz₄ (by simp) fun h₅ _ hs₅ => hE h₅ e (fun c o c1 c2 c3 c4 x => hs₅.extBut _ _ c1 (hs₄ _ _ c4 (hs₃.extBut _ _ c2 (hs₂.extBut _ _ c3 (hs₁.extBut _ _ c1 x))))) ⟨oe, hs₅.extBut _ _ hez hoe, hce⟩

theorem pyNext_zipM_item {z TI TO i1 i2 l1 l2 : Addr} {k1 k2 : Nat} {xs ys : Array Value} {x y a b : Value} {Q : Option Value → Shared → Prop} (D : ZipApart z TI TO i1 i2 l1 l2)
    (hz : IsZip s.heap z TI TO .none) (hTI : IsPair s.heap TI (.ref i1) (.ref i2)) (hTO : IsPair s.heap TO a b)
    (h1 : s.heap.IsListIter i1 l1 k1) (h2 : s.heap.IsTupleIter i2 l2 k2) (hl1 : s.heap.IsList l1 xs) (hl2 : s.heap.IsTuple l2 ys) (hx : xs[k1]? = some x) (hy : ys[k2]? = some y)
    (hQ : ∀ h', IsZip h' z TI TO (rawInt s.heap.objs.size) → IsPair h' TO x y → h'.IsListIter i1 l1 (k1 + 1) → h'.IsTupleIter i2 l2 (k2 + 1) → IsPair h' s.heap.objs.size x y → h'.objs.size = s.heap.objs.size + 1 →
      (∀ c o, c ≠ z → c ≠ TO → c ≠ i1 → c ≠ i2 → s.heap.get? c = some o → h'.get? c = some o) → Q (some (.ref s.heap.objs.size)) { s with heap := h' }) :
    wpAny (model prog w) A (pyNext (.ref z)) Q E s := by
  have hT : s.TypeIs (.ref z) "zip" := ⟨_, hz, rfl⟩
  unfold pyNext
  exact wpAny_bind (wpAny_attempt (wpAny_callSpecial?_slot (name := Str.ofString "__next__") hT F.slot_zip_next
    (wpAny_call_entry F.slot_zip_next hT F.entry_zip_next
      (zipM_next_item D hz hTI hTO h1 h2 hl1 hl2 hx hy fun h' a1 a2 a3 a4 a5 a6 a7 => wpAny_pure (hQ h' a1 a2 a3 a4 a5 a6 a7)) (F.args_zip_next_1 _))))

theorem pyNext_zipM_end {z TI TO i1 i2 l1 l2 : Addr} {k1 k2 : Nat} {xs ys : Array Value} {a b : Value} {Q : Option Value → Shared → Prop} (hh : A.handled = none) (D : ZipApart z TI TO i1 i2 l1 l2)
    (hz : IsZip s.heap z TI TO .none) (hTI : IsPair s.heap TI (.ref i1) (.ref i2)) (hTO : IsPair s.heap TO a b)
    (h1 : s.heap.IsListIter i1 l1 k1) (h2 : s.heap.IsTupleIter i2 l2 k2) (hl1 : s.heap.IsList l1 xs) (hl2 : s.heap.IsTuple l2 ys) (hend : xs[k1]? = none ∨ ys[k2]? = none)
    (hQ : ∀ h', (∀ c o, c ≠ z → c ≠ TO → c ≠ i1 → c ≠ i2 → s.heap.get? c = some o → h'.get? c = some o) → Q none { s with heap := h' }) : wpAny (model prog w) A (pyNext (.ref z)) Q E s := by
  have hT : s.TypeIs (.ref z) "zip" := ⟨_, hz, rfl⟩
  unfold pyNext
  refine wpAny_bind (wpAny_attempt (wpAny_callSpecial?_slot (name := Str.ofString "__next__") hT F.slot_zip_next
    (wpAny_call_entry F.slot_zip_next hT F.entry_zip_next (zipM_next_end hh D hz hTI hTO h1 h2 hl1 hl2 hend fun h' e hk he => ?_) (F.args_zip_next_1 _))))
  obtain ⟨o, ho, hc⟩ := he
  refine wpAny_bind (wpAny_isInstance (T := "StopIteration") (b := true) ⟨o, ho, hc⟩ isSubtype_stop ?_)
  exact wpAny_pure (hQ _ hk)
end
abbrev zipMH1 (h : Heap) (l1 : Addr) : Heap := h.push { cls := .type "list_iterator", data := .fields #[.ref l1, .int 0 0] }
abbrev zipMH2 (h : Heap) (l1 l2 : Addr) : Heap := (zipMH1 h l1).push { cls := .type "tuple_iterator", data := .fields #[.ref l2, .int 0 0] }
abbrev zipMH3 (h : Heap) (l1 l2 : Addr) : Heap := (zipMH2 h l1 l2).push { cls := .type "tuple", data := .seq #[.ref h.objs.size, .ref (zipMH1 h l1).objs.size] }
abbrev zipMH4 (h : Heap) (l1 l2 : Addr) : Heap := (zipMH3 h l1 l2).push { cls := .type "tuple", data := .seq #[.none, .none] }
abbrev zipMH5 (h : Heap) (l1 l2 : Addr) : Heap := (zipMH4 h l1 l2).push { cls := .type "zip", data := .fields #[.none, .bool false, .bool false, .ref (zipMH2 h l1 l2).objs.size, .ref (zipMH3 h l1 l2).objs.size] }

theorem meets_zipM_new (l1 l2 : Addr) (xs ys : Array Value) :
    Meets (Builtin.«zip.__new__» ⟨[.type "zip", .ref l1, .ref l2], []⟩) (fun _ R s => s.heap.IsList l1 xs ∧ s.heap.IsTuple l2 ys ∧
      R (.ok (.ret (.ref (zipMH4 s.heap l1 l2).objs.size))) { s with heap := zipMH5 s.heap l1 l2 }) :=
  .of_wp fun prog w A R s h => by
    obtain ⟨hp, g, d, tk, os⟩ := s; obtain ⟨hl1, hl2, h⟩ := h
    have hsub := sub_zip
    have hL1 : Heap.IsList (Shared.heap ⟨hp, g, d, tk, os⟩) l1 xs := hl1
    have hL2 : Heap.IsTuple (Shared.heap ⟨hp.push { cls := .type "list_iterator", data := .fields #[.ref l1, .int 0 0] }, g, d, tk, os⟩) l2 ys := Heap.IsTuple.push hl2 _
    wp_walk using wpAny_pyIter_list hL1, wpAny_pyIter_tuple hL2
    exact ⟨_, rfl, h⟩

section
variable {prog : Program} {w : World} {A : Around} {E : Value → Shared → Prop} {s : Shared}

theorem call_zipM {l1 l2 : Addr} {xs ys : Array Value} {Q : Value → Shared → Prop} (hl1 : s.heap.IsList l1 xs) (hl2 : s.heap.IsTuple l2 ys)
    (h : ∀ h', IsZip h' (s.heap.objs.size + 4) (s.heap.objs.size + 2) (s.heap.objs.size + 3) .none → IsPair h' (s.heap.objs.size + 2) (.ref s.heap.objs.size) (.ref (s.heap.objs.size + 1)) →
      IsPair h' (s.heap.objs.size + 3) .none .none → h'.IsListIter s.heap.objs.size l1 0 → h'.IsTupleIter (s.heap.objs.size + 1) l2 0 → h'.objs.size = s.heap.objs.size + 5 →
      (∀ c o, s.heap.get? c = some o → h'.get? c = some o) → Q (.ref (s.heap.objs.size + 4)) { s with heap := h' }) :
    wpAny (model prog w) A (call (.type "zip") [.ref l1, .ref l2]) Q E s := by
  refine callType_new F.called_zip (by decide) (F.typeCall_zip_2 _ _) (F.newCall_zip_2 _ _) (fun obj => F.args_object_init_3 obj _ _) F.entry_zip_new
    (meets_zipM_new l1 l2 xs ys) ⟨hl1, hl2, ?_⟩
  have z1 : (zipMH1 s.heap l1).objs.size = s.heap.objs.size + 1 := Heap.size_push ..
  have z2 : (zipMH2 s.heap l1 l2).objs.size = s.heap.objs.size + 2 := by rw [Heap.size_push, z1]
  have z3 : (zipMH3 s.heap l1 l2).objs.size = s.heap.objs.size + 3 := by rw [Heap.size_push, z2]
  have z4 : (zipMH4 s.heap l1 l2).objs.size = s.heap.objs.size + 4 := by rw [Heap.size_push, z3]
  have z5 : (zipMH5 s.heap l1 l2).objs.size = s.heap.objs.size + 5 := by rw [Heap.size_push, z4]
  have g5 : (zipMH5 s.heap l1 l2).get? (zipMH4 s.heap l1 l2).objs.size = some _ := Heap.get?_push_size _ rfl
  have g4 : (zipMH5 s.heap l1 l2).get? (zipMH3 s.heap l1 l2).objs.size = some _ := Heap.get?_push_of_some _ (Heap.get?_push_size _ rfl)
  have g3 : (zipMH5 s.heap l1 l2).get? (zipMH2 s.heap l1 l2).objs.size = some _ := Heap.get?_push_of_some _ (Heap.get?_push_of_some _ (Heap.get?_push_size _ rfl))
  have g2 : (zipMH5 s.heap l1 l2).get? (zipMH1 s.heap l1).objs.size = some _ := Heap.get?_push_of_some _ (Heap.get?_push_of_some _ (Heap.get?_push_of_some _ (Heap.get?_push_size _ rfl)))
  have g1 : (zipMH5 s.heap l1 l2).get? s.heap.objs.size = some _ := Heap.get?_push_of_some _ (Heap.get?_push_of_some _ (Heap.get?_push_of_some _ (Heap.get?_push_of_some _ (Heap.get?_push_size _ rfl))))
  show _ ∧ _
  rw [z2, z3, z4] at g5
  rw [z1, z2] at g3
  rw [z3] at g4
  rw [z1] at g2
  rw [z4]
  exact ⟨⟨_, g5, rfl⟩, h _ g5 g3 g4 ⟨_, g1, rfl, rfl⟩ ⟨_, g2, rfl, rfl⟩ z5 fun c o x =>
    Heap.get?_push_of_some _ (Heap.get?_push_of_some _ (Heap.get?_push_of_some _ (Heap.get?_push_of_some _ (Heap.get?_push_of_some _ x))))⟩
end
end ZM
/-! zip of three tuples -/
namespace ZM
open PySem RZ
open PySem.Sem (wp)
abbrev IsTrip (h : Heap) (T : Addr) (a b c : Value) : Prop := h.get? T = some { cls := .type "tuple", data := .seq #[a, b, c] }
structure Apart3 (z TI TO i1 i2 i3 l1 l2 l3 : Addr) : Prop where
  TIz : TI ≠ z
  TOz : TO ≠ z
  i1z : i1 ≠ z
  i2z : i2 ≠ z
  i3z : i3 ≠ z
  TITO : TI ≠ TO
  TIi1 : TI ≠ i1
  TIi2 : TI ≠ i2
  TIi3 : TI ≠ i3
  TOi1 : TO ≠ i1
  TOi2 : TO ≠ i2
  TOi3 : TO ≠ i3
  i1i2 : i1 ≠ i2
  i1i3 : i1 ≠ i3
  i2i3 : i2 ≠ i3
  l1z : l1 ≠ z
  l1TO : l1 ≠ TO
  l1i1 : l1 ≠ i1
  l1i2 : l1 ≠ i2
  l1i3 : l1 ≠ i3
  l2z : l2 ≠ z
  l2TO : l2 ≠ TO
  l2i1 : l2 ≠ i1
  l2i2 : l2 ≠ i2
  l2i3 : l2 ≠ i3
  l3z : l3 ≠ z
  l3TO : l3 ≠ TO
  l3i1 : l3 ≠ i1
  l3i2 : l3 ≠ i2
  l3i3 : l3 ≠ i3
section
variable {prog : Program} {w : World} {A : Around} {E : Value → Shared → Prop} {s : Shared}
theorem upd_trip {T : Addr} {a b c x : Value} {k : Nat} {Q : Unit → Shared → Prop} (hT : IsTrip s.heap T a b c)
    (h : ∀ h', h'.get? T = some { cls := .type "tuple", data := .seq ((#[a, b, c] : Array Value).setIfInBounds k x) } → Heap.SameBut T s.heap h' → Q () { s with heap := h' }) :
    wpAny (model prog w) A (updateSeq T (·.setIfInBounds k x)) Q E s := by
  refine wpAny_updateSeq hT rfl (h _ ?_ (Heap.SameBut.update ..))
  rw [Heap.get?_update_self _ hT rfl]
  simp [Obj.mapSeq]
theorem zip3_next_item {z TI TO i1 i2 i3 l1 l2 l3 : Addr} {k1 k2 k3 : Nat} {xs ys zs : Array Value} {x y u a b c : Value} {Q : Value → Shared → Prop} (D : Apart3 z TI TO i1 i2 i3 l1 l2 l3)
    (hz : IsZip s.heap z TI TO .none) (hTI : IsTrip s.heap TI (.ref i1) (.ref i2) (.ref i3)) (hTO : IsTrip s.heap TO a b c)
    (h1 : s.heap.IsTupleIter i1 l1 k1) (h2 : s.heap.IsTupleIter i2 l2 k2) (h3 : s.heap.IsTupleIter i3 l3 k3) (hl1 : s.heap.IsTuple l1 xs) (hl2 : s.heap.IsTuple l2 ys) (hl3 : s.heap.IsTuple l3 zs) (hx : xs[k1]? = some x) (hy : ys[k2]? = some y) (hu : zs[k3]? = some u)
    (hQ : ∀ h', IsZip h' z TI TO (rawInt s.heap.objs.size) → IsTrip h' TO x y u → h'.IsTupleIter i1 l1 (k1 + 1) → h'.IsTupleIter i2 l2 (k2 + 1) → h'.IsTupleIter i3 l3 (k3 + 1) → IsTrip h' s.heap.objs.size x y u → h'.objs.size = s.heap.objs.size + 1 →
      (∀ d o, d ≠ z → d ≠ TO → d ≠ i1 → d ≠ i2 → d ≠ i3 → s.heap.get? d = some o → h'.get? d = some o) → Q (.ref s.heap.objs.size) { s with heap := h' }) :
    wpAny (model prog w) A (Builtin.«zip.__next__» ⟨[.ref z], []⟩) (fun fin s' => ∃ v, fin = .done (.ret v) ∧ Q v s') E s := by
  show wpAny _ _ (field (.ref z) 2 >>= _) _ _ _
  refine wpAny_bind (wpAny_field hz rfl (x := .bool false) rfl ?_)
  show wpAny _ _ (field (.ref z) 3 >>= _) _ _ _
  refine wpAny_bind (wpAny_field hz rfl (x := .ref TI) rfl ?_)
  refine wpAny_bind (wpAny_seqItems hTI rfl ?_)
  show wpAny _ _ (Builtin.SmallTypes.ownedTupleIsFree (.ref z) >>= _) _ _ _
  refine wpAny_bind ?_
  unfold Builtin.SmallTypes.ownedTupleIsFree
  refine wpAny_bind (wpAny_field hz rfl (x := .none) rfl (wpAny_pure ?_))
  simp only [if_true]
  refine wpAny_bind (wpAny_rule ?_)
  refine wpAny_bind (wpAny_field hz rfl (x := .ref TO) rfl ?_)
  refine wpAny_bind (wpAny_setField_rec hz (by simp) fun g₁ hz₁ hs₁ => ?_)
  replace hz₁ : IsZip g₁ z TI TO .ellipsis := hz₁
  refine wpAny_bind ?_
  simp only [List.zipIdx_cons, List.zipIdx_nil, List.forIn_cons, List.forIn_nil]
  refine wpAny_bind (wpAny_bind (wpAny_onRaise ?_))
  show wpAny _ _ (Builtin.SmallTypes.nextOf (.ref i1) >>= _) _ _ _
  refine wpAny_bind (nextOf_tuple_item (h1.extBut hs₁.extBut D.i1z) (hl1.extBut hs₁.extBut D.l1z) hx fun g₂ h1₂ hs₂ => wpAny_pure ?_)
  have hTO₂ : IsTrip g₂ TO a b c := (hs₂.extBut _ _ D.TOi1 (hs₁.extBut _ _ D.TOz hTO))
  refine wpAny_bind (wpAny_seqItems hTO₂ rfl ?_)
  refine wpAny_bind (upd_trip hTO₂ fun g₃ hTO₃ hs₃ => ?_)
  replace hTO₃ : IsTrip g₃ TO x b c := hTO₃
  refine wpAny_bind (wpAny_letGo (wpAny_pure ?_))
  refine wpAny_bind (wpAny_bind (wpAny_onRaise ?_))
  show wpAny _ _ (Builtin.SmallTypes.nextOf (.ref i2) >>= _) _ _ _
  refine wpAny_bind (nextOf_tuple_item (((h2.extBut hs₁.extBut D.i2z).extBut hs₂.extBut D.i1i2.symm).extBut hs₃.extBut D.TOi2.symm) (((hl2.extBut hs₁.extBut D.l2z).extBut hs₂.extBut D.l2i1).extBut hs₃.extBut D.l2TO) hy fun g₄ h2₄ hs₄ => wpAny_pure ?_)
  have hTO₄ : IsTrip g₄ TO x b c := (hs₄.extBut _ _ D.TOi2 hTO₃)
  refine wpAny_bind (wpAny_seqItems hTO₄ rfl ?_)
  refine wpAny_bind (upd_trip hTO₄ fun g₅ hTO₅ hs₅ => ?_)
  replace hTO₅ : IsTrip g₅ TO x y c := hTO₅
  refine wpAny_bind (wpAny_letGo (wpAny_pure ?_))
  refine wpAny_bind (wpAny_bind (wpAny_onRaise ?_))
  show wpAny _ _ (Builtin.SmallTypes.nextOf (.ref i3) >>= _) _ _ _
  refine wpAny_bind (nextOf_tuple_item (((((h3.extBut hs₁.extBut D.i3z).extBut hs₂.extBut D.i1i3.symm).extBut hs₃.extBut D.TOi3.symm).extBut hs₄.extBut D.i2i3.symm).extBut hs₅.extBut D.TOi3.symm) (((((hl3.extBut hs₁.extBut D.l3z).extBut hs₂.extBut D.l3i1).extBut hs₃.extBut D.l3TO).extBut hs₄.extBut D.l3i2).extBut hs₅.extBut D.l3TO) hu fun g₆ h3₆ hs₆ => wpAny_pure ?_)
  have hTO₆ : IsTrip g₆ TO x y c := (hs₆.extBut _ _ D.TOi3 hTO₅)
  refine wpAny_bind (wpAny_seqItems hTO₆ rfl ?_)
  refine wpAny_bind (upd_trip hTO₆ fun g₇ hTO₇ hs₇ => ?_)
  replace hTO₇ : IsTrip g₇ TO x y u := hTO₇
  refine wpAny_bind (wpAny_letGo (wpAny_pure (wpAny_pure ?_)))
  refine wpAny_bind (wpAny_seqItems hTO₇ rfl ?_)
  refine wpAny_bind (wpAny_newTuple ?_)
  have hsz : g₇.objs.size = s.heap.objs.size := by rw [hs₇.1, hs₆.1, hs₅.1, hs₄.1, hs₃.1, hs₂.1, hs₁.1]
  have hz₇ : IsZip g₇ z TI TO .ellipsis := (hs₇.extBut _ _ D.TOz.symm (hs₆.extBut _ _ D.i3z.symm (hs₅.extBut _ _ D.TOz.symm (hs₄.extBut _ _ D.i2z.symm (hs₃.extBut _ _ D.TOz.symm (hs₂.extBut _ _ D.i1z.symm hz₁))))))
  have hk₇ : ∀ d o, d ≠ z → d ≠ TO → d ≠ i1 → d ≠ i2 → d ≠ i3 → s.heap.get? d = some o → g₇.get? d = some o := fun d o c1 c2 c3 c4 c5 e => (hs₇.extBut _ _ c2 (hs₆.extBut _ _ c5 (hs₅.extBut _ _ c2 (hs₄.extBut _ _ c4 (hs₃.extBut _ _ c2 (hs₂.extBut _ _ c3 (hs₁.extBut _ _ c1 e)))))))
  have h1₇ : g₇.IsTupleIter i1 l1 (k1 + 1) := (((((h1₂.extBut hs₃.extBut D.TOi1.symm).extBut hs₄.extBut D.i1i2).extBut hs₅.extBut D.TOi1.symm).extBut hs₆.extBut D.i1i3).extBut hs₇.extBut D.TOi1.symm)
  have h2₇ : g₇.IsTupleIter i2 l2 (k2 + 1) := (((h2₄.extBut hs₅.extBut D.TOi2.symm).extBut hs₆.extBut D.i2i3).extBut hs₇.extBut D.TOi2.symm)
  have h3₇ : g₇.IsTupleIter i3 l3 (k3 + 1) := (h3₆.extBut hs₇.extBut D.TOi3.symm)
  have hzlt : z < g₇.objs.size := Heap.lt_size hz₇
  show wpAny _ _ (Builtin.SmallTypes.ownedTupleHandOut (.ref z) (.ref g₇.objs.size) >>= _) _ _ _
  refine wpAny_bind ?_
  unfold Builtin.SmallTypes.ownedTupleHandOut
  have hz₈ : IsZip (g₇.push { cls := .type "tuple", data := .seq #[x, y, u] }) z TI TO .ellipsis := Heap.get?_push_of_some _ hz₇
  refine wpAny_bind (wpAny_setField_rec hz₈ (by simp) fun g₉ hz₉ hs₉ => ?_)
  replace hz₉ : IsZip g₉ z TI TO (rawInt g₇.objs.size) := hz₉
  refine wpAny_setField_rec hz₉ (by simp) fun gA hzA hsA => ?_
  replace hzA : IsZip gA z TI TO (rawInt g₇.objs.size) := hzA
  have up : ∀ d o, d ≠ z → g₇.get? d = some o → gA.get? d = some o := fun d o c1 e => hsA.extBut _ _ c1 (hs₉.extBut _ _ c1 (Heap.get?_push_of_some _ e))
  have hTA : IsTrip gA g₇.objs.size x y u := hsA.extBut _ _ (Nat.ne_of_gt hzlt) (hs₉.extBut _ _ (Nat.ne_of_gt hzlt) (Heap.get?_push_size _ rfl))
  have zA : gA.objs.size = g₇.objs.size + 1 := by rw [hsA.1, hs₉.1, Heap.size_push]
  rw [hsz] at hzA hTA zA
  refine wpAny_pure ⟨_, rfl, ?_⟩
  show Q (.ref g₇.objs.size) _
  rw [hsz]
  exact hQ gA hzA (up _ _ D.TOz hTO₇) (h1₇.at fun o e => up _ o D.i1z e) (h2₇.at fun o e => up _ o D.i2z e) (h3₇.at fun o e => up _ o D.i3z e) hTA zA fun d o c1 c2 c3 c4 c5 e => up d o c1 (hk₇ d o c1 c2 c3 c4 c5 e)
theorem zip3_next_end {z TI TO i1 i2 i3 l1 l2 l3 : Addr} {k1 k2 k3 : Nat} {xs ys zs : Array Value} {a b c : Value} {Q : Fin → Shared → Prop} (hh : A.handled = none) (D : Apart3 z TI TO i1 i2 i3 l1 l2 l3)
    (hz : IsZip s.heap z TI TO .none) (hTI : IsTrip s.heap TI (.ref i1) (.ref i2) (.ref i3)) (hTO : IsTrip s.heap TO a b c)
    (h1 : s.heap.IsTupleIter i1 l1 k1) (h2 : s.heap.IsTupleIter i2 l2 k2) (h3 : s.heap.IsTupleIter i3 l3 k3) (hl1 : s.heap.IsTuple l1 xs) (hl2 : s.heap.IsTuple l2 ys) (hl3 : s.heap.IsTuple l3 zs) (hend : xs[k1]? = none ∨ ys[k2]? = none ∨ zs[k3]? = none)
    (hE : ∀ h' e, (∀ d o, d ≠ z → d ≠ TO → d ≠ i1 → d ≠ i2 → d ≠ i3 → s.heap.get? d = some o → h'.get? d = some o) → (∃ o, h'.get? e = some o ∧ o.cls = .type "StopIteration") → E (.ref e) { s with heap := h' }) :
    wpAny (model prog w) A (Builtin.«zip.__next__» ⟨[.ref z], []⟩) Q E s := by
  show wpAny _ _ (field (.ref z) 2 >>= _) _ _ _
  refine wpAny_bind (wpAny_field hz rfl (x := .bool false) rfl ?_)
  show wpAny _ _ (field (.ref z) 3 >>= _) _ _ _
  refine wpAny_bind (wpAny_field hz rfl (x := .ref TI) rfl ?_)
  refine wpAny_bind (wpAny_seqItems hTI rfl ?_)
  show wpAny _ _ (Builtin.SmallTypes.ownedTupleIsFree (.ref z) >>= _) _ _ _
  refine wpAny_bind ?_
  unfold Builtin.SmallTypes.ownedTupleIsFree
  refine wpAny_bind (wpAny_field hz rfl (x := .none) rfl (wpAny_pure ?_))
  simp only [if_true]
  refine wpAny_bind (wpAny_rule ?_)
  refine wpAny_bind (wpAny_field hz rfl (x := .ref TO) rfl ?_)
  refine wpAny_bind (wpAny_setField_rec hz (by simp) fun g₁ hz₁ hs₁ => ?_)
  replace hz₁ : IsZip g₁ z TI TO .ellipsis := hz₁
  refine wpAny_bind ?_
  simp only [List.zipIdx_cons, List.zipIdx_nil, List.forIn_cons, List.forIn_nil]
  refine wpAny_bind (wpAny_bind (wpAny_onRaise ?_))
  show wpAny _ _ (Builtin.SmallTypes.nextOf (.ref i1) >>= _) _ _ _
  cases hx : xs[k1]? with
  | none =>
    refine wpAny_bind (nextOf_tuple_end hh (h1.extBut hs₁.extBut D.i1z) (hl1.extBut hs₁.extBut D.l1z) hx fun g₂ e hs₂ he => ?_)
    obtain ⟨oe, hoe, hce⟩ := he
    have hz₂ : IsZip g₂ z TI TO .ellipsis := (hs₂ _ _ D.i1z.symm hz₁)
    have hez : e ≠ z := fun x => by subst x; rw [hz₂] at hoe; cases hoe; simp at hce
    exact wpAny_setField_rec hz₂ (by simp) fun gB _ hsB => hE gB e (fun d o c1 c2 c3 c4 c5 q => hsB.extBut _ _ c1 (hs₂ _ _ c3 (hs₁.extBut _ _ c1 q))) ⟨oe, hsB.extBut _ _ hez hoe, hce⟩
  | some x =>
    have hend : ys[k2]? = none ∨ zs[k3]? = none := by rcases hend with h | h; rw [hx] at h; cases h; exact h
    refine wpAny_bind (nextOf_tuple_item (h1.extBut hs₁.extBut D.i1z) (hl1.extBut hs₁.extBut D.l1z) hx fun g₂ h1₂ hs₂ => wpAny_pure ?_)
    have hTO₂ : IsTrip g₂ TO a b c := (hs₂.extBut _ _ D.TOi1 (hs₁.extBut _ _ D.TOz hTO))
    refine wpAny_bind (wpAny_seqItems hTO₂ rfl ?_)
    refine wpAny_bind (upd_trip hTO₂ fun g₃ hTO₃ hs₃ => ?_)
    replace hTO₃ : IsTrip g₃ TO x b c := hTO₃
    refine wpAny_bind (wpAny_letGo (wpAny_pure ?_))
    refine wpAny_bind (wpAny_bind (wpAny_onRaise ?_))
    show wpAny _ _ (Builtin.SmallTypes.nextOf (.ref i2) >>= _) _ _ _
    cases hy : ys[k2]? with
    | none =>
      refine wpAny_bind (nextOf_tuple_end hh (((h2.extBut hs₁.extBut D.i2z).extBut hs₂.extBut D.i1i2.symm).extBut hs₃.extBut D.TOi2.symm) (((hl2.extBut hs₁.extBut D.l2z).extBut hs₂.extBut D.l2i1).extBut hs₃.extBut D.l2TO) hy fun g₄ e hs₄ he => ?_)
      obtain ⟨oe, hoe, hce⟩ := he
      have hz₄ : IsZip g₄ z TI TO .ellipsis := (hs₄ _ _ D.i2z.symm (hs₃.extBut _ _ D.TOz.symm (hs₂.extBut _ _ D.i1z.symm hz₁)))
      have hez : e ≠ z := fun x => by subst x; rw [hz₄] at hoe; cases hoe; simp at hce
      exact wpAny_setField_rec hz₄ (by simp) fun gB _ hsB => hE gB e (fun d o c1 c2 c3 c4 c5 q => hsB.extBut _ _ c1 (hs₄ _ _ c4 (hs₃.extBut _ _ c2 (hs₂.extBut _ _ c3 (hs₁.extBut _ _ c1 q))))) ⟨oe, hsB.extBut _ _ hez hoe, hce⟩
    | some y =>
      have hu : zs[k3]? = none := by rcases hend with h | h; rw [hy] at h; cases h; exact h
      refine wpAny_bind (nextOf_tuple_item (((h2.extBut hs₁.extBut D.i2z).extBut hs₂.extBut D.i1i2.symm).extBut hs₃.extBut D.TOi2.symm) (((hl2.extBut hs₁.extBut D.l2z).extBut hs₂.extBut D.l2i1).extBut hs₃.extBut D.l2TO) hy fun g₄ h2₄ hs₄ => wpAny_pure ?_)
      have hTO₄ : IsTrip g₄ TO x b c := (hs₄.extBut _ _ D.TOi2 hTO₃)
      refine wpAny_bind (wpAny_seqItems hTO₄ rfl ?_)
      refine wpAny_bind (upd_trip hTO₄ fun g₅ hTO₅ hs₅ => ?_)
      replace hTO₅ : IsTrip g₅ TO x y c := hTO₅
      refine wpAny_bind (wpAny_letGo (wpAny_pure ?_))
      refine wpAny_bind (wpAny_bind (wpAny_onRaise ?_))
      show wpAny _ _ (Builtin.SmallTypes.nextOf (.ref i3) >>= _) _ _ _
      refine wpAny_bind (nextOf_tuple_end hh (((((h3.extBut hs₁.extBut D.i3z).extBut hs₂.extBut D.i1i3.symm).extBut hs₃.extBut D.TOi3.symm).extBut hs₄.extBut D.i2i3.symm).extBut hs₅.extBut D.TOi3.symm) (((((hl3.extBut hs₁.extBut D.l3z).extBut hs₂.extBut D.l3i1).extBut hs₃.extBut D.l3TO).extBut hs₄.extBut D.l3i2).extBut hs₅.extBut D.l3TO) hu fun g₆ e hs₆ he => ?_)
      obtain ⟨oe, hoe, hce⟩ := he
      have hz₆ : IsZip g₆ z TI TO .ellipsis := (hs₆ _ _ D.i3z.symm (hs₅.extBut _ _ D.TOz.symm (hs₄.extBut _ _ D.i2z.symm (hs₃.extBut _ _ D.TOz.symm (hs₂.extBut _ _ D.i1z.symm hz₁)))))
      have hez : e ≠ z := fun x => by subst x; rw [hz₆] at hoe; cases hoe; simp at hce
      exact wpAny_setField_rec hz₆ (by simp) fun gB _ hsB => hE gB e (fun d o c1 c2 c3 c4 c5 q => hsB.extBut _ _ c1 (hs₆ _ _ c5 (hs₅.extBut _ _ c2 (hs₄.extBut _ _ c4 (hs₃.extBut _ _ c2 (hs₂.extBut _ _ c3 (hs₁.extBut _ _ c1 q))))))) ⟨oe, hsB.extBut _ _ hez hoe, hce⟩
theorem pyNext_zip3_item {z TI TO i1 i2 i3 l1 l2 l3 : Addr} {k1 k2 k3 : Nat} {xs ys zs : Array Value} {x y u a b c : Value} {Q : Option Value → Shared → Prop} (D : Apart3 z TI TO i1 i2 i3 l1 l2 l3)
    (hz : IsZip s.heap z TI TO .none) (hTI : IsTrip s.heap TI (.ref i1) (.ref i2) (.ref i3)) (hTO : IsTrip s.heap TO a b c)
    (h1 : s.heap.IsTupleIter i1 l1 k1) (h2 : s.heap.IsTupleIter i2 l2 k2) (h3 : s.heap.IsTupleIter i3 l3 k3) (hl1 : s.heap.IsTuple l1 xs) (hl2 : s.heap.IsTuple l2 ys) (hl3 : s.heap.IsTuple l3 zs) (hx : xs[k1]? = some x) (hy : ys[k2]? = some y) (hu : zs[k3]? = some u)
    (hQ : ∀ h', IsZip h' z TI TO (rawInt s.heap.objs.size) → IsTrip h' TO x y u → h'.IsTupleIter i1 l1 (k1 + 1) → h'.IsTupleIter i2 l2 (k2 + 1) → h'.IsTupleIter i3 l3 (k3 + 1) → IsTrip h' s.heap.objs.size x y u → h'.objs.size = s.heap.objs.size + 1 →
      (∀ d o, d ≠ z → d ≠ TO → d ≠ i1 → d ≠ i2 → d ≠ i3 → s.heap.get? d = some o → h'.get? d = some o) → Q (some (.ref s.heap.objs.size)) { s with heap := h' }) :
    wpAny (model prog w) A (pyNext (.ref z)) Q E s := by
  have hT : s.TypeIs (.ref z) "zip" := ⟨_, hz, rfl⟩
  unfold pyNext
  exact wpAny_bind (wpAny_attempt (wpAny_callSpecial?_slot (name := Str.ofString "__next__") hT F.slot_zip_next
    (wpAny_call_entry F.slot_zip_next hT F.entry_zip_next
      (zip3_next_item D hz hTI hTO h1 h2 h3 hl1 hl2 hl3 hx hy hu fun h' a1 a2 a3 a4 a5 a6 a7 a8 => wpAny_pure (hQ h' a1 a2 a3 a4 a5 a6 a7 a8)) (F.args_zip_next_1 _))))
theorem pyNext_zip3_end {z TI TO i1 i2 i3 l1 l2 l3 : Addr} {k1 k2 k3 : Nat} {xs ys zs : Array Value} {a b c : Value} {Q : Option Value → Shared → Prop} (hh : A.handled = none) (D : Apart3 z TI TO i1 i2 i3 l1 l2 l3)
    (hz : IsZip s.heap z TI TO .none) (hTI : IsTrip s.heap TI (.ref i1) (.ref i2) (.ref i3)) (hTO : IsTrip s.heap TO a b c)
    (h1 : s.heap.IsTupleIter i1 l1 k1) (h2 : s.heap.IsTupleIter i2 l2 k2) (h3 : s.heap.IsTupleIter i3 l3 k3) (hl1 : s.heap.IsTuple l1 xs) (hl2 : s.heap.IsTuple l2 ys) (hl3 : s.heap.IsTuple l3 zs) (hend : xs[k1]? = none ∨ ys[k2]? = none ∨ zs[k3]? = none)
    (hQ : ∀ h', (∀ d o, d ≠ z → d ≠ TO → d ≠ i1 → d ≠ i2 → d ≠ i3 → s.heap.get? d = some o → h'.get? d = some o) → Q none { s with heap := h' }) : wpAny (model prog w) A (pyNext (.ref z)) Q E s := by
  have hT : s.TypeIs (.ref z) "zip" := ⟨_, hz, rfl⟩
  unfold pyNext
  refine wpAny_bind (wpAny_attempt (wpAny_callSpecial?_slot (name := Str.ofString "__next__") hT F.slot_zip_next
    (wpAny_call_entry F.slot_zip_next hT F.entry_zip_next (zip3_next_end hh D hz hTI hTO h1 h2 h3 hl1 hl2 hl3 hend fun h' e hk he => ?_) (F.args_zip_next_1 _))))
  obtain ⟨o, ho, hc⟩ := he
  refine wpAny_bind (wpAny_isInstance (T := "StopIteration") (b := true) ⟨o, ho, hc⟩ isSubtype_stop ?_)
  exact wpAny_pure (hQ _ hk)
end
abbrev z3H1 (h : Heap) (l1 : Addr) : Heap := h.push { cls := .type "tuple_iterator", data := .fields #[.ref l1, .int 0 0] }
abbrev z3H2 (h : Heap) (l1 l2 : Addr) : Heap := (z3H1 h l1).push { cls := .type "tuple_iterator", data := .fields #[.ref l2, .int 0 0] }
abbrev z3H3 (h : Heap) (l1 l2 l3 : Addr) : Heap := (z3H2 h l1 l2).push { cls := .type "tuple_iterator", data := .fields #[.ref l3, .int 0 0] }
abbrev z3H4 (h : Heap) (l1 l2 l3 : Addr) : Heap := (z3H3 h l1 l2 l3).push { cls := .type "tuple", data := .seq #[.ref h.objs.size, .ref (z3H1 h l1).objs.size, .ref (z3H2 h l1 l2).objs.size] }
abbrev z3H5 (h : Heap) (l1 l2 l3 : Addr) : Heap := (z3H4 h l1 l2 l3).push { cls := .type "tuple", data := .seq #[.none, .none, .none] }
abbrev z3H6 (h : Heap) (l1 l2 l3 : Addr) : Heap := (z3H5 h l1 l2 l3).push { cls := .type "zip", data := .fields #[.none, .bool false, .bool false, .ref (z3H3 h l1 l2 l3).objs.size, .ref (z3H4 h l1 l2 l3).objs.size] }
theorem meets_zip3_new (l1 l2 l3 : Addr) (xs ys zs : Array Value) :
    Meets (Builtin.«zip.__new__» ⟨[.type "zip", .ref l1, .ref l2, .ref l3], []⟩) (fun _ R s => s.heap.IsTuple l1 xs ∧ s.heap.IsTuple l2 ys ∧ s.heap.IsTuple l3 zs ∧
      R (.ok (.ret (.ref (z3H5 s.heap l1 l2 l3).objs.size))) { s with heap := z3H6 s.heap l1 l2 l3 }) :=
  .of_wp fun prog w A R s h => by
    obtain ⟨hp, g, d, tk, os⟩ := s; obtain ⟨hl1, hl2, hl3, h⟩ := h
    have hsub := sub_zip
    have hL1 : Heap.IsTuple (Shared.heap ⟨hp, g, d, tk, os⟩) l1 xs := hl1
    have hL2 : Heap.IsTuple (Shared.heap ⟨hp.push { cls := .type "tuple_iterator", data := .fields #[.ref l1, .int 0 0] }, g, d, tk, os⟩) l2 ys := Heap.IsTuple.push hl2 _
    have hL3 : Heap.IsTuple (Shared.heap ⟨(hp.push { cls := .type "tuple_iterator", data := .fields #[.ref l1, .int 0 0] }).push { cls := .type "tuple_iterator", data := .fields #[.ref l2, .int 0 0] }, g, d, tk, os⟩) l3 zs := Heap.IsTuple.push (Heap.IsTuple.push hl3 _) _
    wp_walk using wpAny_pyIter_tuple hL1, wpAny_pyIter_tuple hL2, wpAny_pyIter_tuple hL3
    exact ⟨_, rfl, h⟩
section
variable {prog : Program} {w : World} {A : Around} {E : Value → Shared → Prop} {s : Shared}
theorem call_zip3 {l1 l2 l3 : Addr} {xs ys zs : Array Value} {Q : Value → Shared → Prop} (hl1 : s.heap.IsTuple l1 xs) (hl2 : s.heap.IsTuple l2 ys) (hl3 : s.heap.IsTuple l3 zs)
    (h : ∀ h', IsZip h' (s.heap.objs.size + 5) (s.heap.objs.size + 3) (s.heap.objs.size + 4) .none → IsTrip h' (s.heap.objs.size + 3) (.ref s.heap.objs.size) (.ref (s.heap.objs.size + 1)) (.ref (s.heap.objs.size + 2)) →
      IsTrip h' (s.heap.objs.size + 4) .none .none .none → h'.IsTupleIter s.heap.objs.size l1 0 → h'.IsTupleIter (s.heap.objs.size + 1) l2 0 → h'.IsTupleIter (s.heap.objs.size + 2) l3 0 → h'.objs.size = s.heap.objs.size + 6 →
      (∀ c o, s.heap.get? c = some o → h'.get? c = some o) → Q (.ref (s.heap.objs.size + 5)) { s with heap := h' }) :
    wpAny (model prog w) A (call (.type "zip") [.ref l1, .ref l2, .ref l3]) Q E s := by
  refine callType_new F.called_zip (by decide) (F.typeCall_zip_3 _ _ _) (F.newCall_zip_3 _ _ _) (fun obj => F.args_object_init_4 obj _ _ _) F.entry_zip_new
    (meets_zip3_new l1 l2 l3 xs ys zs) ⟨hl1, hl2, hl3, ?_⟩
  have z1 : (z3H1 s.heap l1).objs.size = s.heap.objs.size + 1 := Heap.size_push ..
  have z2 : (z3H2 s.heap l1 l2).objs.size = s.heap.objs.size + 2 := by rw [Heap.size_push, z1]
  have z3 : (z3H3 s.heap l1 l2 l3).objs.size = s.heap.objs.size + 3 := by rw [Heap.size_push, z2]
  have z4 : (z3H4 s.heap l1 l2 l3).objs.size = s.heap.objs.size + 4 := by rw [Heap.size_push, z3]
  have z5 : (z3H5 s.heap l1 l2 l3).objs.size = s.heap.objs.size + 5 := by rw [Heap.size_push, z4]
  have z6 : (z3H6 s.heap l1 l2 l3).objs.size = s.heap.objs.size + 6 := by rw [Heap.size_push, z5]
  have g6 : (z3H6 s.heap l1 l2 l3).get? (z3H5 s.heap l1 l2 l3).objs.size = some _ := Heap.get?_push_size _ rfl
  have g5 : (z3H6 s.heap l1 l2 l3).get? (z3H4 s.heap l1 l2 l3).objs.size = some _ := Heap.get?_push_of_some _ (Heap.get?_push_size _ rfl)
  have g4 : (z3H6 s.heap l1 l2 l3).get? (z3H3 s.heap l1 l2 l3).objs.size = some _ := Heap.get?_push_of_some _ (Heap.get?_push_of_some _ (Heap.get?_push_size _ rfl))
  have g3 : (z3H6 s.heap l1 l2 l3).get? (z3H2 s.heap l1 l2).objs.size = some _ := Heap.get?_push_of_some _ (Heap.get?_push_of_some _ (Heap.get?_push_of_some _ (Heap.get?_push_size _ rfl)))
  have g2 : (z3H6 s.heap l1 l2 l3).get? (z3H1 s.heap l1).objs.size = some _ := Heap.get?_push_of_some _ (Heap.get?_push_of_some _ (Heap.get?_push_of_some _ (Heap.get?_push_of_some _ (Heap.get?_push_size _ rfl))))
  have g1 : (z3H6 s.heap l1 l2 l3).get? s.heap.objs.size = some _ := Heap.get?_push_of_some _ (Heap.get?_push_of_some _ (Heap.get?_push_of_some _ (Heap.get?_push_of_some _ (Heap.get?_push_of_some _ (Heap.get?_push_size _ rfl)))))
  show _ ∧ _
  rw [z3, z4, z5] at g6
  rw [z4] at g5
  rw [z1, z2, z3] at g4
  rw [z2] at g3
  rw [z1] at g2
  rw [z5]
  exact ⟨⟨_, g6, rfl⟩, h _ g6 g4 g5 ⟨_, g1, rfl, rfl⟩ ⟨_, g2, rfl, rfl⟩ ⟨_, g3, rfl, rfl⟩ z6 fun c o x =>
    Heap.get?_push_of_some _ (Heap.get?_push_of_some _ (Heap.get?_push_of_some _ (Heap.get?_push_of_some _ (Heap.get?_push_of_some _ (Heap.get?_push_of_some _ x)))))⟩
end
end ZM
namespace ZM
open PySem PySem.Spec PyProof.Rows L2 RZ
/-- the list at a and the tuple at b as they stand at each turn, the items in new pairs -/
def ItzM (K : PySem.W.Frag) (a b : Addr) : It :=
  ⟨fun i H => ∃ (xs ys : List V) (x y : V), SqL K H a xs ∧ SqT K H b ys ∧ xs[i]? = some x ∧ ys[i]? = some y,
    fun i H v H' => ∃ T x y, v = .ref T ∧ H T = none ∧ H' = upd H T (.tup [x, y]) ∧ (∀ xs, SqL K H a xs → xs[i]? = some x) ∧ ∀ ys, SqT K H b ys → ys[i]? = some y,
    fun i H => ∃ xs ys : List V, SqL K H a xs ∧ SqT K H b ys ∧ (xs.length ≤ i ∨ ys.length ≤ i)⟩
theorem turn_zipM {P : Program} {w : World} {K : PySem.W.Frag} {elts : List Expr} {kk : Nat} {tpos : Pos} {a b z TI TO i1 i2 : Addr} (D : ZipApart z TI TO i1 i2 a b) :
    Turn P w K (.Tuple elts kk tpos) (ItzM K a b) [z, TI, TO, i1, i2] z (fun i h => IsZip h z TI TO .none ∧ IsPair h TI (.ref i1) (.ref i2) ∧ (∃ x y, IsPair h TO x y) ∧ h.IsListIter i1 a i ∧ h.IsTupleIter i2 b i) where
  mem := by simp
  obj := fun i h st c hc => by
    obtain ⟨hz, hTI, ⟨x, y, hTO⟩, ⟨o1, e1, _, d1⟩, ⟨o2, e2, _, d2⟩⟩ := st
    have e' : c = z ∨ c = TI ∨ c = TO ∨ c = i1 ∨ c = i2 := by simpa using hc
    rcases e' with q | q | q | q | q
    · rw [q]; exact ⟨_, hz, fun v q => nomatch q⟩
    · rw [q]; exact ⟨_, hTI, fun v q => nomatch q⟩
    · rw [q]; exact ⟨_, hTO, fun v q => nomatch q⟩
    · rw [q]; exact ⟨o1, e1, fun v q => by rw [d1] at q; cases q⟩
    · rw [q]; exact ⟨o2, e2, fun v q => by rw [d2] at q; cases q⟩
  keep := fun i h h' st k => by
    obtain ⟨hz, hTI, ⟨x, y, hTO⟩, h1, h2⟩ := st
    exact ⟨k z (by simp) _ hz, k TI (by simp) _ hTI, ⟨x, y, k TO (by simp) _ hTO⟩, h1.at fun o q => k i1 (by simp) o q, h2.at fun o q => k i2 (by simp) o q⟩
  item := by
    intro X hP hw hK hc i pins s σ H E I hf st hg
    subst hP hw hK
    obtain ⟨hz, hTI, ⟨x0, y0, hTO⟩, h1, h2⟩ := st
    obtain ⟨xs, ys, x, y, hqx, hqy, hx, hy⟩ := hg
    obtain ⟨its, rv, p, _⟩ := I.list hqx
    obtain ⟨its2, rv2, p2, _⟩ := I.tuple hqy
    obtain ⟨u, hu, ru⟩ := rv.get hx
    obtain ⟨u2, hu2, ru2⟩ := rv2.get hy
    have hzl : z < s.heap.objs.size := Heap.lt_size hz
    refine pyNext_zipM_item D hz hTI hTO h1 h2 p.isList p2 (x := u) (y := u2) (by simpa using hu) (by simpa using hu2) fun h' z' TO' h1' h2' hT hsz hk => ?_
    refine ⟨_, rfl, wpAny_letOwnedTupleGo_zip (s := { s with heap := h' }) z' fun h'' z'' sb => ?_⟩
    have hT2 : h''.get? s.heap.objs.size = some { cls := .type "tuple", data := .seq #[u, u2] } := (sb.2 _ (Nat.ne_of_gt hzl)).trans hT
    have new : ObjOk X.prog X.w (upd H s.heap.objs.size (.tup [x, y])) h'' s.heap.objs.size (.tup [x, y]) :=
      ⟨by show 2 ≤ sizeLine; decide, [u, u2], .cons ru (.cons ru2 .nil), ⟨_, hT2, rfl, _, rfl⟩⟩
    have I1 : Inv X pins σ (upd H s.heap.objs.size (.tup [x, y])) { s with heap := h'' } :=
      I.turnedNew (t' := s.toks) (ch := [z, TI, TO, i1, i2]) (fun c o hb q => (sb.2 c (fun q' => hb (by simp [q']))).trans (hk c o (fun q' => hb (by simp [q'])) (fun q' => hb (by simp [q'])) (fun q' => hb (by simp [q'])) (fun q' => hb (by simp [q'])) q)) hf (Nat.le_refl _) new
    refine ⟨.ref s.heap.objs.size, _, I1, rfl, ⟨_, x, y, rfl, I.hok.fresh (Nat.le_refl _), rfl, fun l hl => by rw [I.list_inj hl hqx]; exact hx, fun l hl => by rw [I.tuple_inj hl hqy]; exact hy⟩, ⟨z'', ?_, ⟨u, u2, ?_⟩, ?_, ?_⟩, fun c hcm => ?_⟩
    · exact (sb.2 _ D.TIz).trans (hk _ _ D.TIz D.TITO D.TIi1 D.TIi2 hTI)
    · exact (sb.2 _ D.TOz).trans TO'
    · exact h1'.at fun o q => (sb.2 _ D.i1z).trans q
    · exact h2'.at fun o q => (sb.2 _ D.i2z).trans q
    · have hlt : c < s.heap.objs.size := by
        have e' : c = z ∨ c = TI ∨ c = TO ∨ c = i1 ∨ c = i2 := by simpa using hcm
        rcases e' with q | q | q | q | q
        · rw [q]; exact hzl
        · rw [q]; exact Heap.lt_size hTI
        · rw [q]; exact Heap.lt_size hTO
        · rw [q]; obtain ⟨_, e1, _⟩ := h1; exact Heap.lt_size e1
        · rw [q]; obtain ⟨_, e2, _⟩ := h2; exact Heap.lt_size e2
      rw [upd_ne (Nat.ne_of_lt hlt)]
      exact (hf c hcm).1
  done := by
    intro X hP hw hK hc i pins s σ H E I hf st hg
    subst hP hw hK
    obtain ⟨hz, hTI, ⟨x0, y0, hTO⟩, h1, h2⟩ := st
    obtain ⟨xs, ys, hqx, hqy, hend⟩ := hg
    obtain ⟨its, rv, p, _⟩ := I.list hqx
    obtain ⟨its2, rv2, p2, _⟩ := I.tuple hqy
    have l1 := rv.length
    have l2 := rv2.length
    have he : its.toArray[i]? = none ∨ its2.toArray[i]? = none := by
      rcases hend with q | q
      · exact .inl (by simp; omega)
      · exact .inr (by simp; omega)
    exact pyNext_zipM_end (I.ok.hd hc) D hz hTI hTO h1 h2 p.isList p2 he fun h' hk => ⟨rfl, I.turnedL (t' := s.toks) (ch := [z, TI, TO, i1, i2]) (fun c o hb q =>
      hk c o (fun q' => hb (by simp [q'])) (fun q' => hb (by simp [q'])) (fun q' => hb (by simp [q'])) (fun q' => hb (by simp [q'])) q) hf⟩
  self := fun A i s Q E st h => wpAny_pyIter_zip st.1 h

/-- three tuples as they stand at each turn, the items in new triples -/
def Itz3 (K : PySem.W.Frag) (a b c : Addr) : It :=
  ⟨fun i H => ∃ (xs ys zs : List V) (x y u : V), SqT K H a xs ∧ SqT K H b ys ∧ SqT K H c zs ∧ xs[i]? = some x ∧ ys[i]? = some y ∧ zs[i]? = some u,
    fun i H v H' => ∃ T x y u, v = .ref T ∧ H T = none ∧ H' = upd H T (.tup [x, y, u]) ∧ (∀ xs, SqT K H a xs → xs[i]? = some x) ∧ (∀ ys, SqT K H b ys → ys[i]? = some y) ∧ ∀ zs, SqT K H c zs → zs[i]? = some u,
    fun i H => ∃ xs ys zs : List V, SqT K H a xs ∧ SqT K H b ys ∧ SqT K H c zs ∧ (xs.length ≤ i ∨ ys.length ≤ i ∨ zs.length ≤ i)⟩
theorem turn_zip3 {P : Program} {w : World} {K : PySem.W.Frag} {elts : List Expr} {kk : Nat} {tpos : Pos} {a b c z TI TO i1 i2 i3 : Addr} (D : Apart3 z TI TO i1 i2 i3 a b c) :
    Turn P w K (.Tuple elts kk tpos) (Itz3 K a b c) [z, TI, TO, i1, i2, i3] z (fun i h => IsZip h z TI TO .none ∧ IsTrip h TI (.ref i1) (.ref i2) (.ref i3) ∧ (∃ x y u, IsTrip h TO x y u) ∧ h.IsTupleIter i1 a i ∧ h.IsTupleIter i2 b i ∧ h.IsTupleIter i3 c i) where
  mem := by simp
  obj := fun i h st d hd => by
    obtain ⟨hz, hTI, ⟨x, y, u, hTO⟩, ⟨o1, e1, _, d1⟩, ⟨o2, e2, _, d2⟩, ⟨o3, e3, _, d3⟩⟩ := st
    have e' : d = z ∨ d = TI ∨ d = TO ∨ d = i1 ∨ d = i2 ∨ d = i3 := by simpa using hd
    rcases e' with q | q | q | q | q | q
    · rw [q]; exact ⟨_, hz, fun v q => nomatch q⟩
    · rw [q]; exact ⟨_, hTI, fun v q => nomatch q⟩
    · rw [q]; exact ⟨_, hTO, fun v q => nomatch q⟩
    · rw [q]; exact ⟨o1, e1, fun v q => by rw [d1] at q; cases q⟩
    · rw [q]; exact ⟨o2, e2, fun v q => by rw [d2] at q; cases q⟩
    · rw [q]; exact ⟨o3, e3, fun v q => by rw [d3] at q; cases q⟩
  keep := fun i h h' st k => by
    obtain ⟨hz, hTI, ⟨x, y, u, hTO⟩, h1, h2, h3⟩ := st
    exact ⟨k z (by simp) _ hz, k TI (by simp) _ hTI, ⟨x, y, u, k TO (by simp) _ hTO⟩, h1.at fun o q => k i1 (by simp) o q, h2.at fun o q => k i2 (by simp) o q, h3.at fun o q => k i3 (by simp) o q⟩
  item := by
    intro X hP hw hK hc i pins s σ H E I hf st hg
    subst hP hw hK
    obtain ⟨hz, hTI, ⟨x0, y0, u0, hTO⟩, h1, h2, h3⟩ := st
    obtain ⟨xs, ys, zs, x, y, w, hqx, hqy, hqz, hx, hy, hw⟩ := hg
    obtain ⟨its, rv, p, _⟩ := I.tuple hqx
    obtain ⟨its2, rv2, p2, _⟩ := I.tuple hqy
    obtain ⟨its3, rv3, p3, _⟩ := I.tuple hqz
    obtain ⟨u, hu, ru⟩ := rv.get hx
    obtain ⟨u2, hu2, ru2⟩ := rv2.get hy
    obtain ⟨u3, hu3, ru3⟩ := rv3.get hw
    have hzl : z < s.heap.objs.size := Heap.lt_size hz
    refine pyNext_zip3_item D hz hTI hTO h1 h2 h3 p p2 p3 (x := u) (y := u2) (u := u3) (by simpa using hu) (by simpa using hu2) (by simpa using hu3) fun h' z' TO' h1' h2' h3' hT hsz hk => ?_
    refine ⟨_, rfl, wpAny_letOwnedTupleGo_zip (s := { s with heap := h' }) z' fun h'' z'' sb => ?_⟩
    have hT2 : h''.get? s.heap.objs.size = some { cls := .type "tuple", data := .seq #[u, u2, u3] } := (sb.2 _ (Nat.ne_of_gt hzl)).trans hT
    have new : ObjOk X.prog X.w (upd H s.heap.objs.size (.tup [x, y, w])) h'' s.heap.objs.size (.tup [x, y, w]) :=
      ⟨by show 3 ≤ sizeLine; decide, [u, u2, u3], .cons ru (.cons ru2 (.cons ru3 .nil)), ⟨_, hT2, rfl, _, rfl⟩⟩
    have I1 : Inv X pins σ (upd H s.heap.objs.size (.tup [x, y, w])) { s with heap := h'' } :=
      I.turnedNew (t' := s.toks) (ch := [z, TI, TO, i1, i2, i3]) (fun d o hb q => (sb.2 d (fun q' => hb (by simp [q']))).trans (hk d o (fun q' => hb (by simp [q'])) (fun q' => hb (by simp [q'])) (fun q' => hb (by simp [q'])) (fun q' => hb (by simp [q'])) (fun q' => hb (by simp [q'])) q)) hf (Nat.le_refl _) new
    refine ⟨.ref s.heap.objs.size, _, I1, rfl, ⟨_, x, y, w, rfl, I.hok.fresh (Nat.le_refl _), rfl, fun l hl => by rw [I.tuple_inj hl hqx]; exact hx, fun l hl => by rw [I.tuple_inj hl hqy]; exact hy, fun l hl => by rw [I.tuple_inj hl hqz]; exact hw⟩, ⟨z'', ?_, ⟨u, u2, u3, ?_⟩, ?_, ?_, ?_⟩, fun d hcm => ?_⟩
    · exact (sb.2 _ D.TIz).trans (hk _ _ D.TIz D.TITO D.TIi1 D.TIi2 D.TIi3 hTI)
    · exact (sb.2 _ D.TOz).trans TO'
    · exact h1'.at fun o q => (sb.2 _ D.i1z).trans q
    · exact h2'.at fun o q => (sb.2 _ D.i2z).trans q
    · exact h3'.at fun o q => (sb.2 _ D.i3z).trans q
    · have hlt : d < s.heap.objs.size := by
        have e' : d = z ∨ d = TI ∨ d = TO ∨ d = i1 ∨ d = i2 ∨ d = i3 := by simpa using hcm
        rcases e' with q | q | q | q | q | q
        · rw [q]; exact hzl
        · rw [q]; exact Heap.lt_size hTI
        · rw [q]; exact Heap.lt_size hTO
        · rw [q]; obtain ⟨_, e1, _⟩ := h1; exact Heap.lt_size e1
        · rw [q]; obtain ⟨_, e2, _⟩ := h2; exact Heap.lt_size e2
        · rw [q]; obtain ⟨_, e3, _⟩ := h3; exact Heap.lt_size e3
      rw [upd_ne (Nat.ne_of_lt hlt)]
      exact (hf d hcm).1
  done := by
    intro X hP hw hK hc i pins s σ H E I hf st hg
    subst hP hw hK
    obtain ⟨hz, hTI, ⟨x0, y0, u0, hTO⟩, h1, h2, h3⟩ := st
    obtain ⟨xs, ys, zs, hqx, hqy, hqz, hend⟩ := hg
    obtain ⟨its, rv, p, _⟩ := I.tuple hqx
    obtain ⟨its2, rv2, p2, _⟩ := I.tuple hqy
    obtain ⟨its3, rv3, p3, _⟩ := I.tuple hqz
    have l1 := rv.length
    have l2 := rv2.length
    have l3 := rv3.length
    have he : its.toArray[i]? = none ∨ its2.toArray[i]? = none ∨ its3.toArray[i]? = none := by
      rcases hend with q | q | q
      · exact .inl (by simp; omega)
      · exact .inr (.inl (by simp; omega))
      · exact .inr (.inr (by simp; omega))
    exact pyNext_zip3_end (I.ok.hd hc) D hz hTI hTO h1 h2 h3 p p2 p3 he fun h' hk => ⟨rfl, I.turnedL (t' := s.toks) (ch := [z, TI, TO, i1, i2, i3]) (fun d o hb q =>
      hk d o (fun q' => hb (by simp [q'])) (fun q' => hb (by simp [q'])) (fun q' => hb (by simp [q'])) (fun q' => hb (by simp [q'])) (fun q' => hb (by simp [q'])) q) hf⟩
  self := fun A i s Q E st h => wpAny_pyIter_zip st.1 h

theorem apart3 (I l1 l2 l3 : Nat) (h1 : l1 < I) (h2 : l2 < I) (h3 : l3 < I) : Apart3 (I + 5) (I + 3) (I + 4) I (I + 1) (I + 2) l1 l2 l3 := by
  constructor <;> exact fun h => (by have h : (_ : Nat) = _ := h; omega)
/-- zip(list, tuple) -/
def iZipM (K : PySem.W.Frag) (ta : TA) : TI := fun σ H R => ta σ H fun vs H1 => ∃ a b xs ys, vs = [.ref a, .ref b] ∧ SqL K H1 a xs ∧ SqT K H1 b ys ∧ R (ItzM K a b) H1
theorem pi_zipM {X : Cx} {e e2 : Expr} {ta : TA} {p pos tpos : Pos} {elts : List Expr} {kk : Nat} (hg : Gl X "zip") (hm : X.mg "zip" = none) (ha : PA X [e, e2] ta)
    (hs : starEach [e, e2] X.env = (false, eval e X.env) :: starEach [e2] X.env := by rfl) (hpl : (backTo pos (starEach [e2] X.env)).any (·.1) = false := by rfl) :
    PI X (.Tuple elts kk tpos) (.Call (.Name "zip" p) [e, e2] [] pos) (iZipM X.K ta) := by
  refine ⟨fun pins s σ H R I h => ?_⟩
  refine Call_ (ld_blt I hg hm PyProof.Rows.boot_zip (PyProof.Rows.callWith_type1 (thn (ha.run pos pins s σ H _ I h) fun us s1 ⟨vs, H1, I1, r1, q1⟩ => ?_) hs hpl))
  obtain ⟨a, b, xs, ys, ex, hqx, hqy, q⟩ := q1
  subst ex
  cases r1 with
  | cons r rr =>
    cases rr with
    | cons r' rr =>
      cases rr
      cases r
      cases r'
      have fresh5 : ∀ c, c ∈ [s1.heap.objs.size + 4, s1.heap.objs.size + 2, s1.heap.objs.size + 3, s1.heap.objs.size, s1.heap.objs.size + 1] → FpOk X pins H1 c := fun c hcm => by
        have e' : c = s1.heap.objs.size + 4 ∨ c = s1.heap.objs.size + 2 ∨ c = s1.heap.objs.size + 3 ∨ c = s1.heap.objs.size ∨ c = s1.heap.objs.size + 1 := by simpa using hcm
        have hle : s1.heap.objs.size ≤ c := by
          rcases e' with z | z | z | z | z
          · rw [z]; exact Nat.le_add_right _ _
          · rw [z]; exact Nat.le_add_right _ _
          · rw [z]; exact Nat.le_add_right _ _
          · rw [z]; exact Nat.le_refl _
          · rw [z]; exact Nat.le_add_right _ _
        exact I1.fpOk hle (I1.hok.fresh hle)
      obtain ⟨its, rv, p1, _⟩ := I1.list hqx
      obtain ⟨its2, rv2, p2, _⟩ := I1.tuple hqy
      obtain ⟨o2, ho2, _⟩ := id p2
      refine call_zipM p1.isList (show s1.heap.IsTuple b its2.toArray from p2) fun h' hz hTI hTO h1 h2 hsz hk => wpAny_pyIter_zip hz ?_
      have I2 : Inv X pins σ H1 { s1 with heap := h' } := I1.kept (t' := s1.toks) hk
      exact ⟨s1.heap.objs.size + 4, [s1.heap.objs.size + 4, s1.heap.objs.size + 2, s1.heap.objs.size + 3, s1.heap.objs.size, s1.heap.objs.size + 1], _, _, H1, rfl, I2, turn_zipM (PySem.W.ktu_apart s1.heap.objs.size a b p1.lt (Heap.lt_size ho2)), ⟨hz, hTI, ⟨_, _, hTO⟩, h1, h2⟩, fresh5, q⟩
/-- zip of three tuples -/
def iZip3 (K : PySem.W.Frag) (ta : TA) : TI := fun σ H R => ta σ H fun vs H1 => ∃ a b c xs ys zs, vs = [.ref a, .ref b, .ref c] ∧ SqT K H1 a xs ∧ SqT K H1 b ys ∧ SqT K H1 c zs ∧ R (Itz3 K a b c) H1
theorem pi_zip3 {X : Cx} {e e2 e3 : Expr} {ta : TA} {p pos tpos : Pos} {elts : List Expr} {kk : Nat} (hg : Gl X "zip") (hm : X.mg "zip" = none) (ha : PA X [e, e2, e3] ta)
    (hs : starEach [e, e2, e3] X.env = (false, eval e X.env) :: starEach [e2, e3] X.env := by rfl) (hpl : (backTo pos (starEach [e2, e3] X.env)).any (·.1) = false := by rfl) :
    PI X (.Tuple elts kk tpos) (.Call (.Name "zip" p) [e, e2, e3] [] pos) (iZip3 X.K ta) := by
  refine ⟨fun pins s σ H R I h => ?_⟩
  refine Call_ (ld_blt I hg hm PyProof.Rows.boot_zip (PyProof.Rows.callWith_type1 (thn (ha.run pos pins s σ H _ I h) fun us s1 ⟨vs, H1, I1, r1, q1⟩ => ?_) hs hpl))
  obtain ⟨a, b, c, xs, ys, zs, ex, hqx, hqy, hqz, q⟩ := q1
  subst ex
  cases r1 with
  | cons r rr =>
    cases rr with
    | cons r' rr =>
      cases rr with
      | cons r'' rr =>
        cases rr
        cases r
        cases r'
        cases r''
        have fresh6 : ∀ d, d ∈ [s1.heap.objs.size + 5, s1.heap.objs.size + 3, s1.heap.objs.size + 4, s1.heap.objs.size, s1.heap.objs.size + 1, s1.heap.objs.size + 2] → FpOk X pins H1 d := fun d hcm => by
          have e' : d = s1.heap.objs.size + 5 ∨ d = s1.heap.objs.size + 3 ∨ d = s1.heap.objs.size + 4 ∨ d = s1.heap.objs.size ∨ d = s1.heap.objs.size + 1 ∨ d = s1.heap.objs.size + 2 := by simpa using hcm
          have hle : s1.heap.objs.size ≤ d := by
            rcases e' with z | z | z | z | z | z
            · rw [z]; exact Nat.le_add_right _ _
            · rw [z]; exact Nat.le_add_right _ _
            · rw [z]; exact Nat.le_add_right _ _
            · rw [z]; exact Nat.le_refl _
            · rw [z]; exact Nat.le_add_right _ _
            · rw [z]; exact Nat.le_add_right _ _
          exact I1.fpOk hle (I1.hok.fresh hle)
        obtain ⟨its, rv, p1, _⟩ := I1.tuple hqx
        obtain ⟨its2, rv2, p2, _⟩ := I1.tuple hqy
        obtain ⟨its3, rv3, p3, _⟩ := I1.tuple hqz
        obtain ⟨o1, ho1, _⟩ := id p1
        obtain ⟨o2, ho2, _⟩ := id p2
        obtain ⟨o3, ho3, _⟩ := id p3
        refine call_zip3 (show s1.heap.IsTuple a its.toArray from p1) (show s1.heap.IsTuple b its2.toArray from p2) (show s1.heap.IsTuple c its3.toArray from p3) fun h' hz hTI hTO h1 h2 h3 hsz hk => wpAny_pyIter_zip hz ?_
        have I2 : Inv X pins σ H1 { s1 with heap := h' } := I1.kept (t' := s1.toks) hk
        exact ⟨s1.heap.objs.size + 5, [s1.heap.objs.size + 5, s1.heap.objs.size + 3, s1.heap.objs.size + 4, s1.heap.objs.size, s1.heap.objs.size + 1, s1.heap.objs.size + 2], _, _, H1, rfl, I2, turn_zip3 (apart3 s1.heap.objs.size a b c (Heap.lt_size ho1) (Heap.lt_size ho2) (Heap.lt_size ho3)), ⟨hz, hTI, ⟨_, _, _, hTO⟩, h1, h2, h3⟩, fresh6, q⟩
end ZM
namespace DL
open PySem PySem.Spec PyProof.Rows L2
section
variable {Γ : Ga} {K : PySem.W.Frag} {E : WX}
variable {a b c tg : Expr} {fa fb fc : FE} {pos p tpos : Pos} {elts : List Expr} {kk : Nat}
variable {ρ : List Addr} {F : Hp}
/-! ### zip of a list and a tuple -/
def itZipM (f g : FE) : FI := fun env st => (f env st).bind fun d s => (g env s).bind fun d' s' => match d, d' with
  | .lst xs, .tup ys => .ok (zip2 xs ys) s'
  | _, _ => .no
theorem walk_zipM {a b : Addr} {xs ys : List V} {n : Nat} (hn : n = min xs.length ys.length) : Walk (ZM.ItzM K a b) n (fun H => SqL K H a xs ∧ SqT K H b ys) (YPair (fun i => xs[i]?) (fun i => ys[i]?)) := by
  subst hn
  refine ⟨fun i _ hi q => ?_, fun _ q => ⟨xs, ys, q.1, q.2, by omega⟩, fun i H v H' _ q y => ?_⟩
  · have h1 : i < xs.length := by omega
    have h2 : i < ys.length := by omega
    exact ⟨xs, ys, xs[i], ys[i], q.1, q.2, by simp [h1], by simp [h2]⟩
  · obtain ⟨T, x, z, h1, h2, h3, h4, h5⟩ := y
    exact ⟨T, x, z, h1, h2, h3, h4 xs q.1, h5 ys q.2⟩
theorem di_zipM (h : DE Γ a fa) (h' : DE Γ b fb) (hg : Γ.sc.names.lookup ("zip" : Str) = some .globalImplicit) (hm : Γ.mg "zip" = none) (hs : ∀ env : PySem.Env, starEach [a, b] env = (false, eval a env) :: starEach [b] env := by intro _; rfl) (hs2 : ∀ env : PySem.Env, starEach [b] env = [(false, eval b env)] := by intro _; rfl) (hpl : ∀ env : PySem.Env, (backTo pos (starEach [b] env)).any (·.1) = false := by intro _; rfl) : DI Γ (.Tuple elts kk tpos) (.Call (.Name "zip" p) [a, b] [] pos) (itZipM fa fb) := by
  obtain ⟨t, pp, q⟩ := h.run
  obtain ⟨u, pp', q'⟩ := h'.run
  refine ⟨ZM.iZipM Γ.K (tCons t (tCons u tNil)), fun X m => ?_, fun B ρ F env st σ H R S h => q B ρ F env st σ H _ S (Out.bind h fun d s1 ρ1 F1 H1 v S1 l1 e1 r1 h1 => q' B ρ1 F1 env s1 σ H1 _ S1 (Out.bind h1 fun d2 s2 ρ2 F2 H2 v2 S2 l2 e2 r2 h2 => ?_))⟩
  · have h := ZM.pi_zipM (pos := pos) (p := p) (tpos := tpos) (elts := elts) (kk := kk) (show X.env.kindOf ("zip" : Str) = _ by unfold Env.kindOf; rw [m.sc]; exact hg) (by rw [m.mg]; exact hm) (pa_cons (pp X m) (pa_cons (pp' X m) pa_nil (by rw [hs2 X.env]; rfl)) (hs X.env)) (hs X.env) (hpl X.env)
    rw [m.K] at h
    exact h
  · have r1' := r1.mono l2 e2
    split at h2
    · have q1 := r1'.rp rfl
      obtain ⟨b, us, rfl, g3, g4⟩ := r2.tup
      cases q1 with
      | lst g1 g2 =>
        refine ⟨_, b, _, us, rfl, .inl (.inl (S2.so.sub _ _ g1)), (sqU_mono S2.so.sub g3).t, h2.ret S2 ⟨_, _, walk_zipM (by rw [zip2_length, g2.length, g4.length]), fun H e => ⟨.inl (.inl (e _ _ g1)), (sqU_mono e g3).t⟩, fun i H x H' y => ?_⟩⟩
        obtain ⟨T, x1, x2, h1, h2, h3, h4, h5⟩ := y
        obtain ⟨d1, z1, z2⟩ := g2.get' h4
        obtain ⟨d2, z3, z4⟩ := g4.get' h5
        exact ⟨_, zip2_get _ _ _ _ _ z1 z3, .inr (.inl ⟨T, _, _, h1, h2, h3, rfl, .cons z2 (.cons z4 .nil)⟩)⟩
    · exact h2.elim
/-! ### zip of three tuples -/
def zip3 : List D → List D → List D → List D
  | a :: r, b :: t, c :: u => .tup [a, b, c] :: zip3 r t u
  | _, _, _ => []
theorem zip3_get : ∀ (xs ys zs : List D) (i : Nat) (x y z : D), xs[i]? = some x → ys[i]? = some y → zs[i]? = some z → (zip3 xs ys zs)[i]? = some (.tup [x, y, z])
  | _ :: _, _ :: _, _ :: _, 0, x, y, z, h, h', h'' => by simp at h h' h''; subst h h' h''; rfl
  | _ :: r, _ :: t, _ :: u, i + 1, x, y, z, h, h', h'' => zip3_get r t u i x y z (by simpa using h) (by simpa using h') (by simpa using h'')
  | [], _, _, _, _, _, _, h, _, _ => by simp at h
  | _ :: _, [], _, _, _, _, _, _, h, _ => by simp at h
  | _ :: _, _ :: _, [], _, _, _, _, _, _, h => by simp at h
theorem zip3_length : ∀ (xs ys zs : List D), (zip3 xs ys zs).length = min xs.length (min ys.length zs.length)
  | _ :: r, _ :: t, _ :: u => by
    simp only [zip3, List.length_cons, zip3_length r t u]
    omega
  | [], _, _ => by simp [zip3]
  | _ :: _, [], _ => by simp [zip3]
  | _ :: _, _ :: _, [] => by simp [zip3]
def itZip3 (f g h : FE) : FI := fun env st => (f env st).bind fun d s => (g env s).bind fun d' s' => (h env s').bind fun d'' s'' => match d, d', d'' with
  | .tup xs, .tup ys, .tup zs => .ok (zip3 xs ys zs) s''
  | _, _, _ => .no
/-- a new triple -/
def YTrip (xs ys zs : Nat → Option V) : Nat → Hp → V → Hp → Prop := fun i H v H' => ∃ T x y z, v = .ref T ∧ H T = none ∧ H' = upd H T (.tup [x, y, z]) ∧ xs i = some x ∧ ys i = some y ∧ zs i = some z
theorem walk_zip3 {a b c : Addr} {xs ys zs : List V} {n : Nat} (hn : n = min xs.length (min ys.length zs.length)) : Walk (ZM.Itz3 K a b c) n (fun H => SqT K H a xs ∧ SqT K H b ys ∧ SqT K H c zs) (YTrip (fun i => xs[i]?) (fun i => ys[i]?) (fun i => zs[i]?)) := by
  subst hn
  refine ⟨fun i _ hi q => ?_, fun _ q => ⟨xs, ys, zs, q.1, q.2.1, q.2.2, by omega⟩, fun i H v H' _ q y => ?_⟩
  · have h1 : i < xs.length := by omega
    have h2 : i < ys.length := by omega
    have h3 : i < zs.length := by omega
    exact ⟨xs, ys, zs, xs[i], ys[i], zs[i], q.1, q.2.1, q.2.2, by simp [h1], by simp [h2], by simp [h3]⟩
  · obtain ⟨T, x, z, u, h1, h2, h3, h4, h5, h6⟩ := y
    exact ⟨T, x, z, u, h1, h2, h3, h4 xs q.1, h5 ys q.2.1, h6 zs q.2.2⟩
theorem di_zip3 (h : DE Γ a fa) (h' : DE Γ b fb) (h'' : DE Γ c fc) (hg : Γ.sc.names.lookup ("zip" : Str) = some .globalImplicit) (hm : Γ.mg "zip" = none) (hs : ∀ env : PySem.Env, starEach [a, b, c] env = (false, eval a env) :: starEach [b, c] env := by intro _; rfl) (hs2 : ∀ env : PySem.Env, starEach [b, c] env = (false, eval b env) :: starEach [c] env := by intro _; rfl) (hs3 : ∀ env : PySem.Env, starEach [c] env = [(false, eval c env)] := by intro _; rfl) (hpl : ∀ env : PySem.Env, (backTo pos (starEach [b, c] env)).any (·.1) = false := by intro _; rfl) : DI Γ (.Tuple elts kk tpos) (.Call (.Name "zip" p) [a, b, c] [] pos) (itZip3 fa fb fc) := by
  obtain ⟨t, pp, q⟩ := h.run
  obtain ⟨u, pp', q'⟩ := h'.run
  obtain ⟨w, pp'', q''⟩ := h''.run
  refine ⟨ZM.iZip3 Γ.K (tCons t (tCons u (tCons w tNil))), fun X m => ?_, fun B ρ F env st σ H R S h => q B ρ F env st σ H _ S (Out.bind h fun d s1 ρ1 F1 H1 v S1 l1 e1 r1 h1 => q' B ρ1 F1 env s1 σ H1 _ S1 (Out.bind h1 fun d2 s2 ρ2 F2 H2 v2 S2 l2 e2 r2 h2 => q'' B ρ2 F2 env s2 σ H2 _ S2 (Out.bind h2 fun d3 s3 ρ3 F3 H3 v3 S3 l3 e3 r3 h3 => ?_)))⟩
  · have h := ZM.pi_zip3 (pos := pos) (p := p) (tpos := tpos) (elts := elts) (kk := kk) (show X.env.kindOf ("zip" : Str) = _ by unfold Env.kindOf; rw [m.sc]; exact hg) (by rw [m.mg]; exact hm) (pa_cons (pp X m) (pa_cons (pp' X m) (pa_cons (pp'' X m) pa_nil (by rw [hs3 X.env]; rfl)) (hs2 X.env)) (hs X.env)) (hs X.env) (hpl X.env)
    rw [m.K] at h
    exact h
  · have r1' := (r1.mono l2 e2).mono l3 e3
    have r2' := r2.mono l3 e3
    split at h3
    · obtain ⟨a, vs, rfl, g1, g2⟩ := r1'.tup
      obtain ⟨b, us, rfl, g3, g4⟩ := r2'.tup
      obtain ⟨c, ws, rfl, g5, g6⟩ := r3.tup
      refine ⟨a, b, c, vs, us, ws, rfl, (sqU_mono S3.so.sub g1).t, (sqU_mono S3.so.sub g3).t, (sqU_mono S3.so.sub g5).t, h3.ret S3 ⟨_, _, walk_zip3 (by rw [zip3_length, g2.length, g4.length, g6.length]), fun H e => ⟨(sqU_mono e g1).t, (sqU_mono e g3).t, (sqU_mono e g5).t⟩, fun i H x H' y => ?_⟩⟩
      obtain ⟨T, x1, x2, x3, h1, h2, h3, h4, h5, h6⟩ := y
      obtain ⟨d1, z1, z2⟩ := g2.get' h4
      obtain ⟨d2, z3, z4⟩ := g4.get' h5
      obtain ⟨d3, z5, z6⟩ := g6.get' h6
      exact ⟨_, zip3_get _ _ _ _ _ _ _ z1 z3 z5, .inr (.inl ⟨T, _, _, h1, h2, h3, rfl, .cons z2 (.cons z4 (.cons z6 .nil))⟩)⟩
    · exact h3.elim
/-! ### range with a step of -1 -/
def rngU (lo : Int) (n : Nat) : List D := (List.range n).map fun (i : Nat) => D.int (lo - (i : Int))
def itRd (f g h : FE) : FI := fun env st => (f env st).bind fun d s => (g env s).bind fun d' s' => (h env s').bind fun d'' s'' => match d, d', d'' with
  | .int i, .int j, .int k => if rngOk i = true ∧ rngOk j = true ∧ k = -1 then .ok (rngU i (i - j).toNat) s'' else .no
  | _, _, _ => .no
theorem iter_rangeU {lo : Int} {n : Nat} : Iter K ρ F (Itc lo (-1) n) (rngU lo n) := by
  have hl : (rngU lo n).length = n := by simp [rngU]
  refine ⟨fun _ => True, fun i H x H' => i < n ∧ H' = H ∧ x = .int (lo + (i : Nat) * (-1)), ?_, fun _ _ => trivial, fun i H x H' y => ?_⟩
  · rw [hl]
    exact ⟨fun i H hi _ => hi, fun H _ => Nat.le_refl n, fun i H x H' hi _ y => ⟨hi, y⟩⟩
  · obtain ⟨hi, h1, rfl⟩ := y
    refine ⟨.int (lo - i), by simp [rngU, hi], .inl ⟨h1, ?_⟩⟩
    rw [show lo + (i : Nat) * (-1) = lo - (i : Int) by omega]
    exact .int _
theorem di_range3 {tg : Expr} (h : DE Γ a fa) (h' : DE Γ b fb) (h'' : DE Γ c fc) (hg : Γ.sc.names.lookup ("range" : Str) = some .globalImplicit) (hm : Γ.mg "range" = none) (hs : ∀ env : PySem.Env, starEach [a, b, c] env = (false, eval a env) :: starEach [b, c] env := by intro _; rfl) (hs2 : ∀ env : PySem.Env, starEach [b, c] env = (false, eval b env) :: starEach [c] env := by intro _; rfl) (hs3 : ∀ env : PySem.Env, starEach [c] env = [(false, eval c env)] := by intro _; rfl) (hpl : ∀ env : PySem.Env, (backTo pos (starEach [b, c] env)).any (·.1) = false := by intro _; rfl) : DI Γ tg (.Call (.Name "range" p) [a, b, c] [] pos) (itRd fa fb fc) := by
  obtain ⟨t, pp, q⟩ := h.run
  obtain ⟨u, pp', q'⟩ := h'.run
  obtain ⟨w, pp'', q''⟩ := h''.run
  refine ⟨_, fun X m => pi_range3 (show X.env.kindOf ("range" : Str) = _ by unfold Env.kindOf; rw [m.sc]; exact hg) (by rw [m.mg]; exact hm) (pa_cons (pp X m) (pa_cons (pp' X m) (pa_cons (pp'' X m) pa_nil (by rw [hs3 X.env]; rfl)) (hs2 X.env)) (hs X.env)) (hs X.env) (hpl X.env), fun B ρ F env st σ H R S h => q B ρ F env st σ H _ S (Out.bind h fun d s1 ρ1 F1 H1 v S1 l1 e1 r1 h1 => q' B ρ1 F1 env s1 σ H1 _ S1 (Out.bind h1 fun d2 s2 ρ2 F2 H2 v2 S2 l2 e2 r2 h2 => q'' B ρ2 F2 env s2 σ H2 _ S2 (Out.bind h2 fun d3 s3 ρ3 F3 H3 v3 S3 l3 e3 r3 h3 => ?_)))⟩
  split at h3
  · split at h3
    · rename_i hc
      cases r1.int
      cases r2.int
      cases r3.int
      have hc1 := of_decide_eq_true hc.1
      have hc2 := of_decide_eq_true hc.2.1
      obtain ⟨_, _, rfl⟩ := hc
      exact ⟨_, _, _, _, rfl, RgC.neg hc1.1 hc1.2 hc2.1 hc2.2, h3.ret S3 iter_rangeU⟩
    · exact h3.elim
  · exact h3.elim
/-- a comprehension for a name that others capture -/
theorem sw_cell {elt : Expr} {gs : List Comprehension} {scope : Scope} {pos py : Pos} {y : Str} {l : Nat} {env : PySem.Env} (hy : env.scope.names.lookup y = some .cell) : swapsWith (.ListComp elt gs scope pos) (some (.Name y py)) l env = pure false := by
  have ky : env.kindOf y = some .cell := hy
  unfold swapsWith
  simp only [ky]
  have e : ((some NameKind.cell : Option NameKind) == some NameKind.local) = false := rfl
  simp [e, show (NameKind.cell == NameKind.local) = false from rfl]
end
end DL
namespace L2
open PySem PySem.Spec PyProof.Rows
section
variable {X : Cx} {CX : CXT} {k : Nat} {f C : Addr} {fd : FuncData} {ps : List Str} {sp : Sp} {E : L2.St → XK} {m : Str} {pos apos : Pos} {o e : Expr} {es : List Expr} {ta : TE} {t : TA}
/-- o.m(..), what it lets out told at the slots -/
def tMethAt (C : Addr) (m : Str) (sp : Sp) (E : L2.St → XK) (ta : TE) (t : TA) : TE := fun σ H Q => ta σ H fun x H1 => ∃ a dx fs, x = .ref a ∧ H1 a = some (.ins C dx fs) ∧ fs.lookup m = none ∧ t σ H1 fun vs H2 => sp (x :: vs) H2 Q (E σ)
theorem pe_methAt {pl : Sem Bool} (he : PE X o ta) (c : Cls X.K C) (hm : Meth X.K C m f) (F : FnOk X.prog X.w X.K X.mg X.base CX k f fd ps sp) (hr : Room k X.A) (hb : Binds X.K fd ps []) (hx : ∀ σ, PassesAt CX X σ (E σ)) (ha : PA X (e :: es) t)
    (hst : starEach (e :: es) X.env = (false, eval e X.env) :: starEach es X.env := by rfl) (hpl : (backTo pos (starEach es X.env)).any (·.1) = false := by rfl)
    (ht : eval (.Call (.Attribute o m apos) (e :: es) [] pos) X.env = (do
      let ov ← eval o X.env
      standAt apos.atName
      let (f, first) ← holding [ov] (getMethod ov m pl)
      callWith pos f first (backTo pos (starEach (e :: es) X.env)) (backToKw pos (keywordEach [] X.env))) := by rfl) :
    PE X (.Call (.Attribute o m apos) (e :: es) [] pos) (tMethAt C m sp E ta t) := by
  refine ⟨fun pins s σ H Q I h => ?_⟩
  refine PySem.W.methodCall_KW (pl := pl) (thn (he.run pins s σ H _ I h) fun u s1 ⟨x, H1, I1, rx, a, dx, fs, ex, ea, l, q⟩ => ?_) ht
  subst ex
  obtain rfl : u = Value.ref a := rx
  refine getmeth_ok I1 ea c hm l ?_
  refine PySem.W.callWith_K (first := [.ref a]) (h₀ := X.base) I.ok.mod.kin hm.kp (thn (ha.run pos pins s1 σ H1 _ I1 q) fun us s2 ⟨vs, H2, I2, r, q2⟩ => ⟨I2.kIn, ?_⟩) hst hpl
  exact run_fnS (us := .ref a :: us) (vs := .ref a :: vs) F hr hb (hx σ) I2 (.cons rfl r) q2
theorem pe_methAt0 {pl : Sem Bool} (he : PE X o ta) (c : Cls X.K C) (hm : Meth X.K C m f) (F : FnOk X.prog X.w X.K X.mg X.base CX k f fd ps sp) (hr : Room k X.A) (hb : Binds X.K fd ps []) (hx : ∀ σ, PassesAt CX X σ (E σ))
    (ht : eval (.Call (.Attribute o m apos) [] [] pos) X.env = (do
      let ov ← eval o X.env
      standAt apos.atName
      let (f, first) ← holding [ov] (getMethod ov m pl)
      callWith pos f first (backTo pos (starEach [] X.env)) (backToKw pos (keywordEach [] X.env))) := by rfl) :
    PE X (.Call (.Attribute o m apos) [] [] pos) (tMethAt C m sp E ta tNil) := by
  refine ⟨fun pins s σ H Q I h => ?_⟩
  refine PySem.W.methodCall_KW (pl := pl) (thn (he.run pins s σ H _ I h) fun u s1 ⟨x, H1, I1, rx, a, dx, fs, ex, ea, l, q⟩ => ?_) ht
  subst ex
  obtain rfl : u = Value.ref a := rx
  refine getmeth_ok I1 ea c hm l ?_
  exact PySem.W.callWith_K0 (first := [.ref a]) I1.kIn hm.kp (run_fnS (us := [.ref a]) (vs := [.ref a]) F hr hb (hx σ) I1 (.cons rfl .nil) q)
end
end L2
namespace DL
open PySem PySem.Spec PyProof.Rows L2
section
variable {Γ : Ga} {K : PySem.W.Frag} {E : WX}
variable {a b e o : Expr} {es : List Expr} {fa fb : FE} {fs : FA} {pos p apos : Pos}
variable {B : Base} {ρ ρ' : List Addr} {F F' H H' : Hp} {env env' : Env} {st st' : Store} {σ σ' : L2.St} {v : V} {d : D}
/-! ### calls of methods -/
def mth (C : Addr) (m : Str) (n : Nat) (φ : Fn) (fo : FE) (fs : FA) : FE := fun env st => (fo env st).bind fun d s => match insD C s d with
  | some fv => if fv.lookup m = none ∧ d.isSl = false then (fs env s).bind fun ds s' => if noSl ds = true ∧ ds.length + 1 = n then φ (d :: ds) s' else .no else .no
  | none => .no
theorem snd_mth {C : Addr} {m : Str} {n : Nat} {φ : Fn} {t : TE} {ta : TA} (ho : SndE K E t fo) (ha : SndA K E ta fs) : SndE K E (tMethAt C m (spD K n φ) (WE E) t ta) (mth C m n φ fo fs) := fun B ρ F env st σ H Q S q =>
  ho B ρ F env st σ H _ S (Out.bind q fun d s1 ρ1 F1 H1 v S1 l1 e1 r1 h1 => by
    cases hx : insD C s1 d with
    | none => rw [hx] at h1; exact h1.elim
    | some x =>
      rw [hx] at h1
      obtain ⟨q, dx, fv, rfl, k1, k2, k3, _⟩ := insD_ok S1 r1 hx
      simp only at h1
      split at h1
      · rename_i hc
        refine ⟨q, dx, fv, rfl, k1, k3.none hc.1, ha B ρ1 F1 env s1 σ H1 _ S1 (Out.bind h1 fun ds s2 ρ2 F2 H2 vs S2 l2 e2 r2 h2 => ?_)⟩
        split at h2
        · rename_i hc2
          have q1 : Rp K ρ2 F2 (V.ref q) d := (r1.mono l2 e2).rp hc.2
          have q2 := r2.rp hc2.1
          exact ⟨by rw [List.length_cons, q2.length]; exact hc2.2, ρ2, F2, s2, d :: ds, S2.so, .cons q1 q2, OutE.fout S2 h2⟩
        · exact h2.elim
      · exact h1.elim)
theorem de_mth {C : Addr} {m : Str} {k n : Nat} {φ : Fn} (G : CalM Γ.P Γ.w Γ.K Γ.mg Γ.base C m k n φ) (hk : k ≤ Γ.k) (c : Cls Γ.K C) (ho : DE Γ o fo) (ha : DA Γ (e :: es) fs)
    (hst : ∀ env : PySem.Env, starEach (e :: es) env = (false, eval e env) :: starEach es env := by intro _; rfl) (hpl : ∀ env : PySem.Env, (backTo pos (starEach es env)).any (·.1) = false := by intro _; rfl)
    {pl : PySem.Env → Sem Bool} (ht : ∀ env : PySem.Env, eval (.Call (.Attribute o m apos) (e :: es) [] pos) env = (do
      let ov ← eval o env
      standAt apos.atName
      let (f, first) ← holding [ov] (getMethod ov m (pl env))
      callWith pos f first (backTo pos (starEach (e :: es) env)) (backToKw pos (keywordEach [] env))) := by intro _; rfl) : DE Γ (.Call (.Attribute o m apos) (e :: es) [] pos) (mth C m n φ fo fs) := by
  obtain ⟨g, fd, ps, h1, h2, h3, F1, bi⟩ := G.ex
  obtain ⟨t, p, s⟩ := ho.run
  obtain ⟨u, pa, sa⟩ := ha.run
  exact ⟨_, fun X m => pe_methAt (p X m) (by rw [m.K]; exact c) (by rw [m.K]; exact ⟨h1, h2, h3⟩) (DF.at (Γ := Γ) F1 m) (m.room.mono hk) (by rw [m.K]; exact bi) (fun σ => passAt m.tk σ) (pa X m) (hst X.env) (hpl X.env) (ht X.env), snd_mth s sa⟩
theorem de_mth0 {C : Addr} {m : Str} {k n : Nat} {φ : Fn} (G : CalM Γ.P Γ.w Γ.K Γ.mg Γ.base C m k n φ) (hk : k ≤ Γ.k) (c : Cls Γ.K C) (ho : DE Γ o fo)
    {pl : PySem.Env → Sem Bool} (ht : ∀ env : PySem.Env, eval (.Call (.Attribute o m apos) [] [] pos) env = (do
      let ov ← eval o env
      standAt apos.atName
      let (f, first) ← holding [ov] (getMethod ov m (pl env))
      callWith pos f first (backTo pos (starEach [] env)) (backToKw pos (keywordEach [] env))) := by intro _; rfl) : DE Γ (.Call (.Attribute o m apos) [] [] pos) (mth C m n φ fo nilA) := by
  obtain ⟨g, fd, ps, h1, h2, h3, F1, bi⟩ := G.ex
  obtain ⟨t, p, s⟩ := ho.run
  exact ⟨_, fun X m => pe_methAt0 (p X m) (by rw [m.K]; exact c) (by rw [m.K]; exact ⟨h1, h2, h3⟩) (DF.at (Γ := Γ) F1 m) (m.room.mono hk) (by rw [m.K]; exact bi) (fun σ => passAt m.tk σ) (ht X.env), snd_mth s snd_nil⟩
/-! ### new instances that stay in the store -/
def mkO (C : Addr) (n : Nat) (φ : Fn) (f : FA) : FE := fun env st => (f env st).bind fun ds s =>
  if noSl ds = true ∧ ds.length = n then
    match φ (.own s.length :: ds) (s ++ [.ins C []]) with
    | .ok .non s' => .ok (.own s.length) s'
    | .ok _ _ => .no
    | .err c fs s' => if s.length ≤ s'.length ∧ belF s.length fs = true ∧ stBel s.length (s'.take s.length) = true then .err c fs (s'.take s.length) else .no
    | .no => .no
  else .no
theorem grow_make {C x dx : Addr} {s' : Store} (S : StOk K ρ F H st) (hx : H x = none) (hd : H dx = none) (hne : dx ≠ x) (G : Grow K (ρ ++ [x]) F (upd (upd H dx (.own x)) x (.ins C dx [])) ρ' F' H' s') : Grow K ρ F H ρ' F' H' s' := by
  have e1 : Same H (upd H dx (.own x)) := same_new hd
  have hx' : upd H dx (.own x) x = none := by rw [upd_ne (Ne.symm hne)]; exact hx
  have e2 : Same (upd H dx (.own x)) (upd (upd H dx (.own x)) x (.ins C dx [])) := same_new hx'
  have back : ∀ a, upd (upd H dx (.own x)) x (.ins C dx []) a = none → H a = none := fun a h => by
    cases e : H a with
    | none => rfl
    | some u => rw [e2 _ _ (e1 _ _ e)] at h; cases h
  refine ⟨G.so, lg_app.trans G.lg, G.fs, fun a o h => ?_, fun a h => ?_, fun a o h hm => ?_, fun a D1 d1 g1 h => G.ins a D1 d1 g1 (e2 _ _ (e1 _ _ h))⟩
  · rcases G.fnew a o h with h | h | ⟨xs, h⟩
    · exact .inl h
    · exact .inr (.inl (back a h))
    · cases e : H a with
      | none => exact .inr (.inl rfl)
      | some u => rw [e2 _ _ (e1 _ _ e)] at h; exact .inr (.inr ⟨xs, h⟩)
  · rcases G.rnew a h with h | h
    · rcases List.mem_append.mp h with h | h
      · exact .inl h
      · have : a = x := by simpa using h
        rw [this]; exact .inr hx
    · exact .inr (back a h)
  · refine G.keep a o (e2 _ _ (e1 _ _ h)) fun hh => ?_
    rcases List.mem_append.mp hh with hh | hh
    · exact hm hh
    · have : a = x := by simpa using hh
      rw [this, hx] at h; cases h
theorem de_mkO {x : Str} {C : Addr} {k : Nat} {f : Addr} {fd : FuncData} {ps : List Str} {n : Nat} {φ : Fn} (M : Mk Γ.K C f) (G : DF Γ k f fd ps (n + 1) φ) (hk : k + 1 ≤ Γ.k) (hg : Γ.sc.names.lookup x = some .globalImplicit) (hm : Γ.mg x = some (.ref C)) (hb : Binds Γ.K fd ps []) (ha : DA Γ (e :: es) fs) (hdb : (x == ("__debug__" : Str)) = false := by decide)
    (he : ∀ env : PySem.Env, starEach (e :: es) env = (false, eval e env) :: starEach es env := by intro _; rfl) (hpl : ∀ env : PySem.Env, (backTo pos (starEach es env)).any (·.1) = false := by intro _; rfl) : DE Γ (.Call (.Name x p) (e :: es) [] pos) (mkO C n φ fs) := by
  obtain ⟨t, pa, sa⟩ := ha.run
  refine ⟨tMakeS C (spD Γ.K (n + 1) φ) (WE Γ.E) t, fun X m => pe_makeS (by rw [m.K]; exact M) (G.at m) (m.room.mono hk) (show X.env.kindOf x = _ by unfold Env.kindOf; rw [m.sc]; exact hg) (by rw [m.mg]; exact hm) (by rw [m.K]; exact hb) (fun σ => passAt m.tk σ) (pa X m) hdb (he X.env) (hpl X.env), fun B ρ F env st σ H Q S hq => sa B ρ F env st σ H _ S (Out.bind hq fun ds s1 ρ1 F1 H1 v S1 l1 e1 r1 h1 => ?_)⟩
  split at h1
  · rename_i hc
    intro x dx hx hd hne
    have r2 := (r1.rp hc.1).mono (ρ' := ρ1 ++ [x]) lg_app (.refl _)
    have hlen : s1.length = ρ1.length := S1.so.len
    refine ⟨by rw [List.length_cons, r2.length, hc.2], ρ1 ++ [x], F1, s1 ++ [.ins C []], .own s1.length :: ds, S1.so.make hx hd hne, .cons (.own (by rw [List.getElem?_append_right (by omega), hlen]; simp)) r2, ?_⟩
    have bk : ∀ {ρ' : List Addr}, Lg (ρ1 ++ [x]) ρ' → ∀ (i : Nat) (a : Addr), i < ρ1.length → ρ'[i]? = some a → ρ1[i]? = some a := fun {ρ'} l i a hi h => by
      have g1 : ρ1[i]? = some ρ1[i] := List.getElem?_eq_getElem hi
      have g2 := l i _ (lg_app i _ g1)
      rw [g2] at h
      rw [g1]; exact h
    cases hr : φ (.own s1.length :: ds) (s1 ++ [.ins C []]) with
    | no => rw [hr] at h1; exact h1.elim
    | err c fs s' =>
      rw [hr] at h1
      simp only at h1
      split at h1
      · rename_i hb'
        intro ρ' F' H' od G' hE
        obtain ⟨hb0, hb1, hb2⟩ := hb'
        have S2 := mk_err S1 hx hd hne G' (G'.so.cut (lg_app.trans G'.lg) hlen.symm hb0 hb2)
        refine h1 ρ1 F' H' od S2 (.refl _) G'.fs ?_
        rcases hE with ⟨q1, q2⟩ | ⟨dx, fv, q1, q2, q3⟩
        · exact .inl ⟨q1, q2⟩
        · exact .inr ⟨dx, fv, q1, q2, q3.bel (bk G'.lg) (by rw [← hlen]; exact hb1)⟩
      · exact h1.elim
    | ok d s' =>
      rw [hr] at h1
      cases d <;> simp only at h1 <;> try exact h1.elim
      intro ρ' F' H' v' G' hv
      have hv' : v' = .non := by cases hv; rfl
      refine ⟨hv', ?_⟩
      have G2 := grow_make S1.so hx hd hne G'
      have hxr : ρ'[s1.length]? = some x := G'.lg _ _ (by rw [List.getElem?_append_right (by omega), hlen]; simp)
      exact h1 ρ' F' H' _ (S1.grow G2) G2.lg G2.fs (.inl (.own hxr))
  · exact h1.elim
theorem dmkO {C : Addr} {x : Str} {k n : Nat} {φ : Fn} (G : CalI Γ.P Γ.w Γ.K Γ.mg Γ.base C x k n φ) (hk : k + 1 ≤ Γ.k) (ha : DA Γ (e :: es) fs) (hg : Γ.sc.names.lookup x = some .globalImplicit := by rfl) (hdb : (x == ("__debug__" : Str)) = false := by decide)
    (he : ∀ env : PySem.Env, starEach (e :: es) env = (false, eval e env) :: starEach es env := by intro _; rfl) (hpl : ∀ env : PySem.Env, (backTo pos (starEach es env)).any (·.1) = false := by intro _; rfl) : DE Γ (.Call (.Name x p) (e :: es) [] pos) (mkO C n φ fs) := by
  obtain ⟨f, fd, ps, F, M, hm, hb⟩ := G.ex
  exact de_mkO M F hk hg hm hb ha hdb he hpl
end
end DL
/-! tuples that are known to have no dict of their own: made so, cut, counted -/
namespace L2
open PySem PySem.Spec PyProof.Rows
section
variable {X : Cx} {es : List Expr} {t : TA} {pos : Pos}
def tTupN (t : TA) : TE := fun σ H Q => t σ H fun xs H1 => xs.length ≤ sizeLine ∧ ∀ p (ob : Obj), H1 p = none → ob.dict = none → Q (.ref p) (upd H1 p (.frz ob (.tup xs)))
theorem pe_tupN {x1} (h : PA X es t) : PE X (.Tuple es x1 pos) (tTupN t) := by
  refine ⟨fun pins s σ H Q I hq => ?_⟩
  refine wpAny_Tuple_spliced (thn (h.run pos pins s σ H _ I hq) fun us s1 ⟨xs, H1, I1, r, z, q⟩ => ⟨by rw [← r.length]; exact z, ?_⟩)
  have hf : H1 s1.heap.objs.size = none := I1.hok.fresh (Nat.le_refl _)
  refine ⟨.ref s1.heap.objs.size, upd H1 s1.heap.objs.size (.frz { cls := .type "tuple", data := .seq us.toArray } (.tup xs)), I1.laid (t' := s1.toks) (fun b u e => Heap.get?_push_of_some _ e) (Nat.le_refl _) ?_, rfl, q _ _ hf rfl⟩
  exact ⟨Heap.get?_push_size _ rfl, z, us, r, ⟨_, Heap.get?_push_size _ rfl, rfl, _, rfl⟩⟩
def rTupN (K : PySem.W.Frag) : List V → Hp → VK → Prop := fun xs H Q => ∃ p ys, xs = [.ref p] ∧ SqL K H p ys ∧ ∀ l (ob : Obj), H l = none → ob.dict = none → Q (.ref l) (upd H l (.frz ob (.tup ys)))
theorem call_tupleN : CallR X (.type "tuple") (rTupN X.K) := by
  intro pins s σ H xs us Q I r h
  obtain ⟨p, ys, rfl, hq, q⟩ := h
  obtain ⟨u, rfl, rx⟩ := vals1 r
  cases rx
  obtain ⟨its, r', pl, hz⟩ := I.list hq
  have hlen := r'.length
  refine call_tuple_list pl.isList (fun h' kp => ?_) (by simp only [List.size_toArray] <;> omega)
  have I1 : Inv X pins σ H { s with heap := h' } := I.kept (t' := s.toks) kp
  have I2 : Inv X pins σ (upd H h'.objs.size (.frz { cls := .type "tuple", data := .seq its.toArray } (.tup ys))) { s with heap := h'.push { cls := .type "tuple", data := .seq its.toArray } } :=
    I1.laid (t' := s.toks) (fun b o e => Heap.get?_push_of_some _ e) (Nat.le_refl _) (show ObjOk X.prog X.w _ _ _ (.frz _ (.tup ys)) from ⟨Heap.get?_push_size _ rfl, hz, its, r', IsTup.new _ _⟩)
  exact ⟨.ref h'.objs.size, _, I2, rfl, q _ _ (I1.hok.fresh (Nat.le_refl _)) rfl⟩
def rSlN (K : PySem.W.Frag) : V → Option Int → Option Int → Hp → VK → Prop := fun x lo hi H Q => ∃ a xs, x = .ref a ∧ SqT K H a xs ∧
  (HT.sIx xs.length 0 lo = 0 ∧ HT.sIx xs.length xs.length hi = xs.length → Q (.ref a) H) ∧ (¬ (HT.sIx xs.length 0 lo = 0 ∧ HT.sIx xs.length xs.length hi = xs.length) → ∀ p (ob : Obj), H p = none → ob.dict = none → Q (.ref p) (upd H p (.frz ob (.tup (cutV xs lo hi)))))
theorem sl_tupN : SlR X (rSlN X.K) := by
  intro pins s σ H x v vl vu lo hi sl Q I rx hs pl pu h
  obtain ⟨a, xs, rfl, hx, q1, q2⟩ := h
  cases rx
  obtain ⟨its, r, ht, hz⟩ := I.tuple hx
  have hlen : its.toArray.size = xs.length := by rw [List.size_toArray]; exact r.length.symm
  refine ⟨"tuple", _, PyProof.Rows.slot_tuple_getitem.lookup, ht.typeIs, ?_⟩
  by_cases hw : HT.sIx xs.length 0 lo = 0 ∧ HT.sIx xs.length xs.length hi = xs.length
  · exact getItem_tuple_whole ht hs pl pu (by rw [hlen]; exact hw) ⟨.ref a, H, I, rfl, q1 hw⟩
  · refine HT.getItem_tuple_cut ht hs pl pu (by rw [hlen]; exact hw) ?_ (by rw [hlen]; exact hz)
    rw [hlen]
    refine ⟨.ref s.heap.objs.size, _, I.laid (t' := s.toks) (o := .frz { cls := .type "tuple", data := .seq ((its.drop (HT.sIx xs.length 0 lo)).take (HT.sIx xs.length xs.length hi - HT.sIx xs.length 0 lo)).toArray } (.tup (cutV xs lo hi))) (fun b ob q => Heap.get?_push_of_some _ q) (Nat.le_refl _) ?_, rfl, q2 hw _ _ (I.hok.fresh (Nat.le_refl _)) rfl⟩
    exact ⟨Heap.get?_push_size _ rfl, Nat.le_trans (cutV_length xs lo hi) hz, _, (r.drop (HT.sIx xs.length 0 lo)).take (HT.sIx xs.length xs.length hi - HT.sIx xs.length 0 lo), IsTup.new _ _⟩
/-- t.count(k), t a tuple of ints -/
def rCntN (K : PySem.W.Frag) : V → List V → Hp → VK → Prop := fun x xs H Q => ∃ (p : Addr) (ns : List Int) (k : Int), x = .ref p ∧ xs = [.int k] ∧ SqT K H p (ns.map V.int) ∧ Q (.int (ns.count k : Nat)) H
theorem mt_tcount : MtR X "tuple.count" (rCntN X.K) := by
  intro pins s σ H x xs v us Q I rx rxs h
  obtain ⟨p, ns, k, rfl, rfl, hs, q⟩ := h
  cases rx
  obtain ⟨u, rfl, ru⟩ := rxs.one
  obtain ⟨t, rfl⟩ := ru
  obtain ⟨its, rv, ⟨⟨cls, dd, data, sl⟩, ho, hc, n, hd⟩, hlen⟩ := I.tuple hs
  simp only at hc hd
  subst hc hd
  have hi := ints_of_vals rv
  refine call_meets PySem.F.slot_tuple_count ⟨_, ho, rfl⟩ PySem.F.entry_tuple_count (PySem.F.args_tuple_count_2 _ _)
    (SeqAt.tuple_countAt p its.toArray n dd sl (.int k t) (eqk k)) ⟨ho, fun y hy => (eqk_gives hi y (by simpa using hy)).at _ _, ?_⟩
  have ec : its.toArray.toList.countP (eqk k) = ns.count k := eqk_count hi
  refine ⟨.int (ns.count k : Nat), H, I.tok _, ⟨s.toks, ?_⟩, q⟩
  show Value.int ((its.toArray.toList.countP (eqk k) : Nat) : Int) s.toks = Value.int ((ns.count k : Nat) : Int) s.toks
  rw [ec]
/-- a tuple without a dict of its own -/
def tyN (K : PySem.W.Frag) (x : V) (H : Hp) : Prop := ∃ p, x = .ref p ∧ ((∃ (o : Obj) (xs : List V), H p = some (.frz o (.tup xs)) ∧ o.dict = none) ∨ ∃ o, K.lookup p = some o ∧ o.cls = .type "tuple" ∧ o.dict = none)
theorem tyN_is {pins : List (Addr × Obj)} {σ : St} {H : Hp} {s : Shared} {x : V} {v : Value} (I : Inv X pins σ H s) (r : RelV x v) (ty : tyN X.K x H) :
    s.TypeIs v "tuple" ∧ ∀ a, v = .ref a → ∃ ob, s.heap.get? a = some ob ∧ ob.dict = none := by
  obtain ⟨p, rfl, ⟨o, xs, h, hd⟩ | ⟨o, h, hc, hd⟩⟩ := ty
  · cases r
    obtain ⟨h1, _, its, _, o', h2, hc, _⟩ := I.hok p _ h
    refine ⟨⟨o', h2, hc⟩, fun a e => ?_⟩
    cases e
    exact ⟨o, h1, hd⟩
  · cases r
    refine ⟨⟨o, I.kIn p o h, hc⟩, fun a e => ?_⟩
    cases e
    exact ⟨o, I.kIn _ o h, hd⟩
def tBN (K : PySem.W.Frag) (r : V → List V → Hp → VK → Prop) (to : TE) (t : TA) : TE := fun σ H Q => to σ H fun x H1 => tyN K x H1 ∧ t σ H1 fun xs H2 => r x xs H2 Q
variable {o e : Expr} {to : TE} {name : Str} {apos cpos : Pos} {id : String} {r : V → List V → Hp → VK → Prop}
theorem pe_bn (pa : PlainAttrs "tuple") (slot : Slot "tuple" name id) (hty : typeOf (.builtin id) = pure (.type "method_descriptor")) (hm : MtR X id r) (ho : PE X o to) (ha : PA X (e :: es) t)
    (hbase : attributeBase o name X.env (eval o X.env) = eval o X.env := by rfl)
    (hfew : ((backTo cpos (starEach (e :: es) X.env)).all (fun x => !x.1) && (backToKw cpos (keywordEach [] X.env)).all (fun x => x.1.isSome)
      && decide ((e :: es).length + ([] : List Keyword).length + (if ([] : List Keyword).isEmpty then 0 else 1) < 30)) = true := by rfl)
    (hline : (apos.endLine == cpos.line) = true := by rfl) (hs : starEach (e :: es) X.env = (false, eval e X.env) :: starEach es X.env := by rfl) (hplain : (backTo cpos (starEach es X.env)).any (·.1) = false := by rfl) :
    PE X (.Call (.Attribute o name apos) (e :: es) [] cpos) (tBN X.K r to t) := by
  refine ⟨fun pins s σ H Q I h => ?_⟩
  refine wpAny_Call_method_late hbase hfew hline rfl (thn (ho.run pins s σ H _ I h) fun v s1 ⟨x, H1, I1, r1, ty, q1⟩ => ?_)
  obtain ⟨h1, h2⟩ := tyN_is I1 r1 ty
  refine ⟨"tuple", id, pa, slot, hty, h1, h2, ?_⟩
  have hA := ha.run cpos pins s1 σ H1 _ I1 q1
  rw [hs] at hA ⊢
  refine Calls.callWith_builtin (by show (false || (backTo cpos (starEach es X.env)).any (·.1)) = false; rw [hplain] <;> rfl) (Calls.evalArgs_plain ?_)
  exact thn hA fun us s2 ⟨vs, H2, I2, r2, q2⟩ => hm pins s2 σ H2 x vs v us Q I2 r1 r2 q2
end
end L2
namespace DL
open PySem PySem.Spec PyProof.Rows L2
section
variable {Γ : Ga} {K : PySem.W.Frag} {E : WX}
variable {a b e o : Expr} {es : List Expr} {fa fb fo : FE} {fs : FA} {pos p p2 apos : Pos}
variable {B : Base} {ρ ρ' : List Addr} {F F' H H' : Hp} {env env' : Env} {st st' : Store} {σ σ' : L2.St} {v : V} {d : D}
theorem ret_mtp {Q : VK} {vs : List V} {ds : List D} {p : Addr} {ob : Obj} (S : Sim K B ρ F env st σ H) (h : OutE K E B ρ F env σ Q (.ok (.mtp ds) st)) (r : RpL K ρ F vs ds) (hp : H p = none) (hd : ob.dict = none) : Q (.ref p) (upd H p (.frz ob (.tup vs))) :=
  h ρ (upd F p (.frz ob (.tup vs))) _ _ (S.newF hp (fun _ => HO.noConfusion)) (.refl _) (same_new (S.noF hp)) (.inl (.mtp (.inl ⟨ob, upd_same, hd⟩) (r.mono (.refl _) (same_new (S.noF hp)))))
def tupM (f : FA) : FE := fun env st => (f env st).bind fun ds s => if ds.length ≤ sizeLine ∧ noSl ds = true then .ok (.mtp ds) s else .no
theorem de_tupM {k : Nat} (h : DA Γ es fs) : DE Γ (.Tuple es k pos) (tupM fs) := by
  obtain ⟨t, p, s⟩ := h.run
  refine ⟨_, fun X m => pe_tupN (p X m), fun B ρ F env st σ H Q S hq => s B ρ F env st σ H _ S (Out.bind hq fun d s1 ρ1 F1 H1 v S1 l1 e1 r1 h1 => ?_)⟩
  split at h1
  · rename_i hc
    exact ⟨by rw [r1.length]; exact hc.1, fun p ob hp hd => ret_mtp S1 h1 (r1.rp hc.2) hp hd⟩
  · exact h1.elim
def oTupleM : OC := fun env st ds => match ds with
  | [d] => match seqR env st d with
    | some xs => if noSl xs = true then .ok (.mtp xs) st else .no
    | none => .no
  | _ => .no
theorem snd_tupleM : SndC K E (rTupN K) oTupleM := fun B ρ F env st σ H Q vs ds S r h => by
  unfold oTupleM at h
  split at h
  · obtain ⟨v, rfl, r1⟩ := r.one
    split at h
    · split at h
      · rename_i xs hx _
        obtain ⟨a, vs, rfl, h1, r2⟩ := seqR_ok S r1 hx
        exact ⟨a, vs, rfl, h1, fun l ob hl hd => ret_mtp S h r2 hl hd⟩
      · exact h.elim
    · exact h.elim
  · exact h.elim
theorem dc_tupleM : DC Γ (.type "tuple") oTupleM := ⟨_, fun X m => by rw [← m.K]; exact call_tupleN, snd_tupleM⟩
def slM (f : FE) (l h : FO) : FE := fun env st => (f env st).bind fun d s1 => (l env s1).bind fun lo s2 => (h env s2).bind fun hi s3 => match d with
  | .mtp xs => .ok (.mtp (cutD xs lo hi)) s3
  | _ => .no
theorem de_sliceM {lo hi : Option Expr} {fl fh : FO} (ha : DE Γ a fa) (hl : DOp Γ lo fl) (hh : DOp Γ hi fh) : DE Γ (.Subscript a (.Slice lo hi none p2) pos) (slM fa fl fh) := by
  obtain ⟨t, p, s⟩ := ha.run
  obtain ⟨tl, pl, sl⟩ := hl.run
  obtain ⟨th, ph, sh⟩ := hh.run
  refine ⟨tSl (rSlN Γ.K) t tl th, fun X m => ?_, fun B ρ F env st σ H Q S hq => s B ρ F env st σ H _ S (Out.bind hq fun d s1 ρ1 F1 H1 v S1 l1 e1 r1 h1 => sl B ρ1 F1 env s1 σ H1 _ S1 (Out.bind h1 fun l s2 ρ2 F2 H2 w S2 l2 e2 r2 h2 => sh B ρ2 F2 env s2 σ H2 _ S2 (Out.bind h2 fun h s3 ρ3 F3 H3 u S3 l3 e3 r3 h3 => ?_)))⟩
  · have h := pe_slice (pos := pos) (p2 := p2) (r := rSlN X.K) sl_tupN (p X m) (pl X m) (ph X m)
    rw [m.K] at h
    exact h
  · subst r2 r3
    have r4 := (r1.mono l2 e2).mono l3 e3
    split at h3
    · have r5 := r4.rp rfl
      cases r5 with
      | mtp g1 g2 =>
        refine ⟨_, _, rfl, (sqN_mono S3.so.sub g1).t, fun hc => ?_, fun hc p ob hp hd => ret_mtp S3 h3 (g2.cut w u) hp hd⟩
        have r6 := g2.cut w u
        rw [cutV_all hc] at r6
        exact h3.ret S3 (.inl (.mtp g1 r6))
    · exact h3.elim
/-- t.count(k) -/
def cntM (f g : FE) : FE := fun env st => (f env st).bind fun d s1 => match d with
  | .mtp xs => (g env s1).bind fun x s2 => match x, intsD xs with
    | .int k, some ns => .ok (.int (ns.count k : Nat)) s2
    | _, _ => .no
  | _ => .no
theorem de_cntM (ho : DE Γ o fo) (ha : DE Γ a fa)
    (hbase : ∀ env : PySem.Env, attributeBase o "count" env (eval o env) = eval o env := by intro _; rfl)
    (hfew : ∀ env : PySem.Env, ((backTo pos (starEach [a] env)).all (fun x => !x.1) && (backToKw pos (keywordEach [] env)).all (fun x => x.1.isSome)
      && decide ([a].length + ([] : List Keyword).length + (if ([] : List Keyword).isEmpty then 0 else 1) < 30)) = true := by intro _; rfl)
    (hline : (apos.endLine == pos.line) = true := by rfl) (hs : ∀ env : PySem.Env, starEach [a] env = [(false, eval a env)] := by intro _; rfl) : DE Γ (.Call (.Attribute o "count" apos) [a] [] pos) (cntM fo fa) := by
  obtain ⟨t, p, s⟩ := ho.run
  obtain ⟨u, p', s'⟩ := ha.run
  refine ⟨tBN Γ.K (rCntN Γ.K) t (tCons u tNil), fun X m => ?_, fun B ρ F env st σ H Q S hq => s B ρ F env st σ H _ S (Out.bind hq fun d s1 ρ1 F1 H1 v S1 l1 e1 r1 h1 => ?_)⟩
  · have h := pe_bn (apos := apos) (cpos := pos) PySem.F.plainAttrs_tuple PySem.F.slot_tuple_count PySem.F.type_tuple_count mt_tcount (p X m) (pa_cons (p' X m) pa_nil (hs X.env)) (hbase X.env) (hfew X.env) hline (hs X.env)
    rw [m.K] at h
    exact h
  · split at h1
    · rename_i xs
      have r5 := r1.rp rfl
      cases r5 with
      | mtp g1 g2 =>
        refine ⟨⟨_, rfl, ?_⟩, s' B ρ1 F1 env s1 σ H1 _ S1 (Out.bind h1 fun x s2 ρ2 F2 H2 w S2 l2 e2 r2 h2 => ?_)⟩
        · rcases g1 with ⟨ob, h, hd⟩ | ⟨ob, its, n, h1, h2, h3, _⟩
          · exact .inl ⟨ob, _, S1.so.sub _ _ h, hd⟩
          · exact .inr ⟨ob, h1, h2, h3⟩
        · split at h2
          · rename_i k ns hns
            cases r2.int
            have e := intsD_ok hns g2
            subst e
            exact ⟨_, ns, k, rfl, rfl, (sqN_mono (e2.trans S2.so.sub) g1).t, h2.ret S2 (.inl (.int _))⟩
          · exact h2.elim
    · exact h1.elim
end
end DL
/-! new lists as cells of the store; own lists given to the store; isinstance of such; x.reverse() -/
namespace DL
open PySem PySem.Spec PyProof.Rows L2
section
variable {Γ : Ga} {K : PySem.W.Frag} {E : WX}
variable {a b e o : Expr} {es : List Expr} {fa fb fo : FE} {fs : FA} {pos p apos cpos : Pos} {s : Stmt} {f : FS}
variable {B : Base} {ρ ρ' : List Addr} {F F' H H' : Hp} {env env' : Env} {st st' : Store} {σ σ' : L2.St} {v : V} {d : D}
def celN (f : FN) : FE := fun env st => (f env st).bind fun ds s => .ok (.own s.length) (s ++ [.lst ds])
theorem own_last {x : Addr} (h : st.length = ρ.length) : (ρ ++ [x])[st.length]? = some x := by
  rw [h, List.getElem?_append_right (Nat.le_refl _)]
  simp
theorem de_cel {f : FN} (h : DN Γ e f) : DE Γ e (celN f) := by
  obtain ⟨t, p, q⟩ := h.run
  refine ⟨t, p, fun B ρ F env st σ H Q S hq => q B ρ F env st σ H Q S ?_⟩
  unfold celN at hq
  cases hr : f env st with
  | no => rw [hr] at hq; exact hq.elim
  | err c fs s => rw [hr] at hq; exact hq
  | ok ds s =>
    rw [hr] at hq
    intro ρ1 F1 H1 x vs S1 l1 e1 h1 h2 h3 h4 h5 r
    have S2 := S1.addCell ⟨h1, h2, h3, h4, h5, fun _ => HO.noConfusion⟩ r
    exact hq (ρ1 ++ [x]) F1 H1 (.ref x) S2 (l1.trans lg_app) e1 (.inl (.own (own_last S1.so.len)))
def giveS (i : Nat) (f : FS) : FS := fun env st => match env[i]? with
  | some (.ol xs) => f (env.set i (.fz (.own st.length))) (st ++ [.lst xs])
  | _ => .no
theorem Sim.giveSlot {i : Nat} {xs : List D} (S : Sim K B ρ F env st σ H) (hi : env[i]? = some (.ol xs)) : ∃ x, Sim K B (ρ ++ [x]) F (env.set i (.fz (.own st.length))) (st ++ [.lst xs]) σ H := by
  obtain ⟨x, vs, h1, h2, h3, h4, h5⟩ := S.sl _ _ hi
  have hlt : i < env.length := (List.getElem?_eq_some_iff.mp hi).1
  have S1 : Sim K B ρ F (env.set i .un) st σ H := S.slots (by simp [S.len]) fun j s hj => by
    by_cases e : j = i
    · subst e
      rw [List.getElem?_set_self hlt] at hj
      cases hj
      exact .inr (.inl rfl)
    · rw [List.getElem?_set_ne (Ne.symm e)] at hj
      exact .inl ⟨hj, rfl⟩
  have nO : ¬ OwnS (env.set i .un) σ x := fun ⟨j, s, q1, q2, q3⟩ => by
    by_cases e : j = i
    · subst e
      rw [List.getElem?_set_self hlt] at q1
      cases q1
      cases q2
    · rw [List.getElem?_set_ne (Ne.symm e)] at q1
      exact e (S.apart j i s _ x q1 hi q2 rfl q3 h1)
  have S2 := S1.addCell (x := x) ⟨h4, h2, h3, nO, (S.ownO i _ x hi rfl h1).symm, fun _ => HO.noConfusion⟩ h5
  refine ⟨x, S2.slots (by simp [S.len]) fun j s hj => ?_⟩
  by_cases e : j = i
  · subst e
    rw [List.getElem?_set_self hlt] at hj
    cases hj
    exact .inr (.inr ⟨_, _, rfl, h1, .own (own_last S.so.len)⟩)
  · rw [List.getElem?_set_ne (Ne.symm e)] at hj
    exact .inl ⟨by rw [List.getElem?_set_ne (Ne.symm e)]; exact hj, rfl⟩
theorem ds_give (i : Nat) (h : DS Γ s f) : DS Γ s (giveS i f) := by
  obtain ⟨t, p, q⟩ := h.run
  refine ⟨t, p, fun B ρ F env st σ H D S hq => ?_⟩
  unfold giveS at hq
  split at hq
  · rename_i xs hi
    obtain ⟨x, S1⟩ := S.giveSlot hi
    exact q B _ F _ _ σ H D S1 (hq.on lg_app (.refl _))
  · exact hq.elim
/-! isinstance, lists of the store too -/
def tyS (st : Store) : D → Option String
  | .own i => match st[i]? with
    | some (.lst _) => some "list"
    | _ => none
  | d => tyD d
theorem tyS_ok {t : String} (S : Sim K B ρ F env st σ H) (r : RpV K ρ F env σ v d) (h : tyS st d = some t) : TyX K H v (.type t) ∧ known t = true := by
  unfold tyS at h
  split at h
  · rename_i i
    split at h
    · rename_i xs hi
      cases h
      have r2 := r.rp rfl
      cases r2 with
      | own hr =>
        obtain ⟨_, vs, q1, _⟩ := S.so.at_ _ _ _ hi hr
        exact ⟨.base (.lst q1), by decide⟩
    · cases h
  · exact tyD_ok S r h
def oIsiS : OC := fun _ st ds => match ds with
  | [d, .ty c] => match tyS st d with
    | some t => if okTy c = true then .ok (.bl (isiB t c)) st else .no
    | none => .no
  | [d, .tup cs] => match tyS st d, clsOk cs with
    | some t, some ns => if ns.all okTy = true then .ok (.bl (ns.any fun c => isiB t c)) st else .no
    | _, _ => .no
  | _ => .no
theorem snd_isiS : SndC K E (fun xs H Q => rIsi K xs H Q ∨ rIsiT K xs H Q ∨ rIsiK K xs H Q) oIsiS := fun B ρ F env st σ H Q vs ds S r h => by
  unfold oIsiS at h
  split at h
  · obtain ⟨v, w, rfl, r1, r2⟩ := r.two
    split at h
    · rename_i t ht
      split at h
      · rename_i hc
        have r3 := r2.rp rfl
        cases r3
        obtain ⟨q1, q2⟩ := tyS_ok S r1 ht
        exact .inl ⟨v, .ty _, _, _, _, rfl, .ty _, q1, kit_B q2 (okTy_or hc), h.ret S (.inl (.bl _))⟩
      · exact h.elim
    · exact h.elim
  · obtain ⟨v, w, rfl, r1, r2⟩ := r.two
    split at h
    · split at h
      · rename_i t ns ht hcs hc
        obtain ⟨q1, q2⟩ := tyS_ok S r1 ht
        obtain ⟨p, us, rfl, h1, r3⟩ := r2.tup
        cases clsOk_ok hcs r3
        exact .inr (.inl ⟨v, p, _, _, _, _, rfl, S.so.sub _ _ (SqU.at_ (K := K) h1), paired_ty ns, q1, kitAny_ty q2 hc, h.ret S (.inl (.bl _))⟩)
      · exact h.elim
    · exact h.elim
  · exact h.elim
theorem dc_isiS : DC Γ (.builtin "isinstance") oIsiS := ⟨_, fun X m => by rw [← m.K]; exact CallR.or call_isi (CallR.or call_isiT call_isiK), snd_isiS⟩
/-! x.reverse() -/
def revS (fo : FE) : FS := fun env st => (fo env st).toS env fun o s1 => match seqL env s1 o with
  | some _ => mutL (fun xs => some xs.reverse) o env s1
  | none => .no
theorem ds_reverse {o : Expr} (ho : DE Γ o fo) (hbase : ∀ env : PySem.Env, attributeBase o "reverse" env (eval o env) = eval o env := by intro _; rfl)
    (hline : (apos.endLine == cpos.line) = true := by rfl) (hsw : ∀ env : PySem.Env, swapsWith (.Call (.Attribute o "reverse" apos) [] [] cpos) none pos.line env = pure false := by intro _; rfl) :
    DS Γ (.Expr (.Call (.Attribute o "reverse" apos) [] [] cpos) pos) (revS fo) := by
  obtain ⟨t, p, q⟩ := ho.run
  refine ⟨tDrop (tBM0 Γ.K "list" rReverse t), fun X m => ?_, fun B ρ F env st σ H T S h => q B ρ F env st σ H _ S (OutS.bind h fun od s1 ρ1 F1 H1 vo S1 l1 e1 r1 h1 => ?_)⟩
  · have h := ps_expr (pos := pos) (pe_bm0 (apos := apos) (cpos := cpos) PySem.F.plainAttrs_list PySem.F.slot_list_reverse PySem.F.type_list_reverse mt_reverse (p X m) (hbase X.env) hline) (hsw X.env)
    rw [m.K] at h
    exact h
  · split at h1
    · rename_i xs0 hx0
      obtain ⟨a0, vs0, rfl, g0, _⟩ := seqL_ok S1 r1 hx0
      obtain ⟨a, vs, xs, ys, ea, g1, g2, g3, g4⟩ := mutL_ok S1 r1 (mutL_S h1)
      cases ea
      cases g3
      exact ⟨.inl ⟨rfl, vs0, .inl (.inl g0)⟩, _, vs, rfl, rfl, g1, g4 _ g2.reverse⟩
    · exact h1.elim
end
end DL
namespace HW
open PySem PySem.Spec PyProof.Rows L2 DL
def b_is_integer (A : Cl) : FS :=
  (retS (andV (cal oIsi (consA (vr 0) (consA (cst (.ty "int")) nilA))) (andV (notV (cal oIsi (consA (vr 0) (consA (cst (.ty "bool")) nilA)))) (chn oLeA oLeA (vr 1) (vr 0) (vr 2)))))
def φ_is_integer (A : Cl) : Fn := runF 3 (b_is_integer A)
def b_is_marks (A : Cl) : FS :=
  (seqS (ifS (orT (notT (tst (cal oIsi (consA (vr 0) (consA (cst (.ty "tuple")) nilA))))) (notT (tst (chn oLeA oLeA (cst (.int 1)) (cal oLen (consA (vr 0) nilA)) (cst (.int 4)))))) (retS (cst (.bl false))) nxS)
  (retS (cal oAll (consA (frz (lcN (itA (vr 0)) (nmN 1) yesT (app 3 (φ_is_integer A) (consA (vr 1) (consA (cst (.int 2)) (consA (cst (.int 60)) nilA)))) [1])) nilA))))
def φ_is_marks (A : Cl) : Fn := runF 2 (b_is_marks A)
def l1_check_frame (A : Cl) : FS :=
  (seqS (ifS (orT (notT (tst (cal oIsi (consA (vr 3) (consA (cst (.ty "tuple")) nilA))))) (orT (tst (bin oNe (cal oLen (consA (vr 3) nilA)) (cst (.int 2)))) (notT (tst (app 3 (φ_is_integer A) (consA (bin oIx (vr 3) (cst (.int 0))) (consA (cst (.int 0)) (consA (bin oSub (cal oLen (consA (vr 0) nilA)) (cst (.int 1))) nilA)))))))) noS nxS)
  (ifS (orT (notT (tst (app 3 (φ_is_integer A) (consA (bin oIx (vr 3) (cst (.int 1))) (consA (bin oAdd (bin oIx (vr 3) (cst (.int 0))) (cst (.int 1))) (consA (bin oSub (cal oLen (consA (vr 0) nilA)) (cst (.int 1))) nilA)))))) (andT (tst (bin oGtA (vr 2) (cst (.int 0)))) (tst (bin oLeA (vr 3) (bin oIx (vr 1) (bin oSub (vr 2) (cst (.int 1)))))))) noS nxS))
def t1_check_frame : FG := (ofN (tupN 2 (consN (nmN 2) (consN (nmN 3) nilN))))
def b_check_frame (A : Cl) : FS :=
  (seqS (ifS (notT (tst (app 1 (φ_is_marks A) (consA (vr 0) nilA)))) noS nxS)
  (seqS (ifS (notT (tst (cal oIsi (consA (vr 1) (consA (cst (.ty "tuple")) nilA))))) noS nxS)
  (forS (itEn (vr 1)) t1_check_frame (l1_check_frame A))))
def φ_check_frame (A : Cl) : Fn := runF 4 (b_check_frame A)
def l1_is_lever (A : Cl) : FS :=
  (seqS (ifS (notT (tst (app 3 (φ_is_integer A) (consA (vr 3) (consA (bin oAdd (vr 2) (cst (.int 1))) (consA (bin oSub (vr 1) (cst (.int 1))) nilA)))))) (retS (cst (.bl false))) nxS)
  (setS 2 (vr 3)))
def t1_is_lever : FG := (ofN (nmN 3))
def b_is_lever (A : Cl) : FS :=
  (seqS (ifS (orT (notT (tst (cal oIsi (consA (vr 0) (consA (cst (.ty "tuple")) nilA))))) (tst (bin oEq (vr 0) (tupV nilA)))) (retS (cst (.bl false))) nxS)
  (seqS (setS 2 (negV (cst (.int 1))))
  (seqS (forS (itA (vr 0)) t1_is_lever (l1_is_lever A))
  (retS (cst (.bl true))))))
def φ_is_lever (A : Cl) : Fn := runF 4 (b_is_lever A)
def l1_Board_init (A : Cl) : FS :=
  (ifS (notT (tst (app 2 (φ_is_lever A) (consA (vr 5) (consA (cal oLen (consA (vr 1) nilA)) nilA))))) noS nxS)
def t1_Board_init : FG := (ofN (tupN 2 (consN (nmN 4) (consN (nmN 5) nilN))))
def b_Board_init (A : Cl) : FS :=
  (seqS (drpS (app 2 (φ_check_frame A) (consA (vr 1) (consA (vr 2) nilA))))
  (seqS (ifS (orT (notT (tst (cal oIsi (consA (vr 3) (consA (cst (.ty "tuple")) nilA))))) (notT (tst (chn oLeA oLeA (cst (.int 1)) (cal oLen (consA (vr 3) nilA)) (cst (.int 4)))))) noS nxS)
  (seqS (forS (itEn (vr 3)) t1_Board_init (l1_Board_init A))
  (fldS A.Board "parts" (vr 0) (tupV (consA (vr 1) (consA (vr 2) (consA (vr 3) nilA))))))))
def φ_Board_init (A : Cl) : Fn := runF 6 (b_Board_init A)
def b_is_standing (A : Cl) : FS :=
  (seqS (ifS (orT (notT (tst (cal oIsi (consA (vr 1) (consA (cst (.ty "tuple")) nilA))))) (tst (bin oNe (cal oLen (consA (vr 1) nilA)) (cal oLen (consA (vr 0) nilA))))) (retS (cst (.bl false))) nxS)
  (retS (cal oAll (consA (frz (lcN (itZip (vr 1) (vr 0)) (tupN 2 (consN (nmN 2) (consN (nmN 3) nilN))) yesT (app 3 (φ_is_integer A) (consA (vr 2) (consA (cst (.int 0)) (consA (bin oSub (vr 3) (cst (.int 1))) nilA)))) [2, 3])) nilA))))
def φ_is_standing (A : Cl) : Fn := runF 4 (b_is_standing A)
def b_check_standing (A : Cl) : FS :=
  (ifS (notT (tst (app 2 (φ_is_standing A) (consA (vr 0) (consA (vr 1) nilA))))) noS nxS)
def φ_check_standing (A : Cl) : Fn := runF 2 (b_check_standing A)
def b_check_lever (A : Cl) : FS :=
  (ifS (notT (tst (app 3 (φ_is_integer A) (consA (vr 1) (consA (cst (.int 0)) (consA (bin oSub (cal oLen (consA (bin oIx (fldV A.Board "parts" (vr 0)) (cst (.int 2))) nilA)) (cst (.int 1))) nilA)))))) noS nxS)
def φ_check_lever (A : Cl) : Fn := runF 2 (b_check_lever A)
def b_check_times (A : Cl) : FS :=
  (ifS (notT (tst (app 3 (φ_is_integer A) (consA (vr 0) (consA (negV (cst (.int 1000000000000000000000000000000))) (consA (cst (.int 1000000000000000000000000000000)) nilA)))))) noS nxS)
def φ_check_times (A : Cl) : Fn := runF 1 (b_check_times A)
def l2_settled (A : Cl) : FS :=
  (ifS (tst (bin oEq (vr 7) (vr 4))) (augIS (fun i j => i + j) (vr 3) (vr 8) (vr 6)) nxS)
def t2_settled : FG := (ofN (tupN 2 (consN (nmN 7) (consN (nmN 8) nilN))))
def l1_settled (A : Cl) : FS :=
  (seqS (setS 6 (bin oDiv (bin oIx (vr 3) (vr 4)) (vr 5)))
  (seqS (asgS (bin oMod (bin oIx (vr 3) (vr 4)) (vr 5)) (subG (vr 3) (vr 4)))
  (forS (itA (vr 1)) t2_settled (l2_settled A))))
def t1_settled : FG := (ofN (tupN 2 (consN (nmN 4) (consN (nmN 5) nilN))))
def b_settled (A : Cl) : FS :=
  (seqS (ownS 3 (calN oList (consA (vr 2) nilA)))
  (seqS (forS (itEn (vr 0)) t1_settled (l1_settled A))
  (retS (cal oTuple (consA (vr 3) nilA)))))
def φ_settled (A : Cl) : Fn := runF 9 (b_settled A)
def b_moved (A : Cl) : FS :=
  (seqS (thenFrz 5 (ownS 5 (lcN (itEn (vr 2)) (tupN 2 (consN (nmN 6) (consN (nmN 7) nilN))) yesT (bin oAdd (vr 7) (ifV (tst (bin (oInA false) (vr 6) (vr 3))) (vr 4) (cst (.int 0)))) [6, 7])))
  (retS (app 3 (φ_settled A) (consA (vr 0) (consA (vr 1) (consA (vr 5) nilA))))))
def φ_moved (A : Cl) : Fn := runF 8 (b_moved A)
def b_pushed (A : Cl) : FS :=
  (seqS (asgS (fldV A.Board "parts" (vr 0)) (ofN (tupN 3 (consN (nmN 4) (consN (nmN 5) (consN (nmN 6) nilN))))))
  (retS (app 5 (φ_moved A) (consA (vr 4) (consA (vr 5) (consA (vr 1) (consA (bin oIx (vr 6) (vr 2)) (consA (vr 3) nilA))))))))
def φ_pushed (A : Cl) : Fn := runF 7 (b_pushed A)
def b_push (A : Cl) : FS :=
  (seqS (drpS (app 2 (φ_check_standing A) (consA (bin oIx (fldV A.Board "parts" (vr 0)) (cst (.int 0))) (consA (vr 1) nilA))))
  (seqS (drpS (app 2 (φ_check_lever A) (consA (vr 0) (consA (vr 2) nilA))))
  (seqS (drpS (app 1 (φ_check_times A) (consA (vr 3) nilA)))
  (retS (app 4 (φ_pushed A) (consA (vr 0) (consA (vr 1) (consA (vr 2) (consA (vr 3) nilA)))))))))
def φ_push (A : Cl) : Fn := runF 4 (b_push A)
def l1_law_mix (A : Cl) : FS :=
  (setS 2 (bin oMod (cal oInt (consA (bin oAdd (bin oAdd (bin oMul (vr 2) (cst (.int 48271))) (bin oMod (cal oInt (consA (vr 3) nilA)) (cst (.int 2147483629)))) (cst (.int 1))) nilA)) (cst (.int 2147483647))))
def t1_law_mix : FG := (ofN (nmN 3))
def b_law_mix (A : Cl) : FS :=
  (seqS (setS 2 (vr 1))
  (seqS (forS (itA (vr 0)) t1_law_mix (l1_law_mix A))
  (retOwn (consMV (vr 2) (consMN (calN oList (consA (vr 0) nilA)) (consMV (cst (.int 0)) nilM))))))
def φ_law_mix (A : Cl) : Fn := runF 4 (b_law_mix A)
def b_law_next (A : Cl) : FS :=
  (seqS (setS 2 (bin oIx (bin oAdd (bin oIx (vr 0) (cst (.int 1))) (frz (lstN (consA (cst (.int 0)) nilA)))) (bin oMod (cal oInt (consA (bin oIx (vr 0) (cst (.int 2))) nilA)) (cal oMax2 (consA (cst (.int 1)) (consA (cal oLen (consA (bin oIx (vr 0) (cst (.int 1))) nilA)) nilA))))))
  (seqS (ifS (tst (bin oGeA (vr 2) (bin oPow (cst (.int 10)) (cst (.int 18))))) (seqS (asgS (bin oDiv (vr 2) (vr 1)) (subG (bin oIx (vr 0) (cst (.int 1))) (bin oMod (cal oInt (consA (bin oIx (vr 0) (cst (.int 2))) nilA)) (cal oLen (consA (bin oIx (vr 0) (cst (.int 1))) nilA)))))
  (retS (bin oMod (cal oInt (consA (vr 2) nilA)) (vr 1)))) nxS)
  (seqS (asgS (bin oMod (cal oInt (consA (bin oAdd (bin oAdd (bin oMul (bin oIx (vr 0) (cst (.int 0))) (cst (.int 48271))) (bin oMul (vr 2) (cst (.int 69621)))) (cst (.int 11))) nilA)) (cst (.int 2147483647))) (subG (vr 0) (cst (.int 0))))
  (seqS (asgS (bin oAdd (bin oIx (vr 0) (cst (.int 2))) (cst (.int 1))) (subG (vr 0) (cst (.int 2))))
  (retS (bin oMod (cal oInt (consA (bin oDiv (bin oIx (vr 0) (cst (.int 0))) (cst (.int 7))) nilA)) (vr 1)))))))
def φ_law_next (A : Cl) : Fn := runF 3 (b_law_next A)

def b_law_alike (A : Cl) (r : Fn) : FS :=
  (seqS (ifS (tst (cal oIsiS (consA (vr 1) (consA (tupV (consA (cst (.ty "tuple")) (consA (cst (.ty "list")) nilA))) nilA)))) (seqS (ifS (orT (notT (tst (cal oIsiS (consA (vr 0) (consA (tupV (consA (cst (.ty "tuple")) (consA (cst (.ty "list")) nilA))) nilA))))) (tst (bin oNe (cal oIsiS (consA (vr 0) (consA (cst (.ty "list")) nilA))) (cal oIsiS (consA (vr 1) (consA (cst (.ty "list")) nilA)))))) (retS (cst (.bl false))) nxS)
  (seqS (ifS (tst (bin oNe (cal oLen (consA (vr 0) nilA)) (cal oLen (consA (vr 1) nilA)))) (retS (cst (.bl false))) nxS)
  (retS (bin oEq (frz (lcN (itR1 (cal oLen (consA (vr 1) nilA))) (nmN 2) (notT (tst (app 2 r (consA (bin oIx (vr 0) (vr 2)) (consA (bin oIx (vr 1) (vr 2)) nilA))))) (vr 2) [2])) (frz (lstN nilA)))))) nxS)
  (seqS (ifS (orT (tst (bin (oIs false) (vr 1) (cst .non))) (tst (cal oIsiS (consA (vr 1) (consA (cst (.ty "str")) nilA))))) (retS (andV (bin oEq (vr 0) (vr 1)) (bin oEq (cal oIsiS (consA (vr 0) (consA (cst (.ty "str")) nilA))) (cal oIsiS (consA (vr 1) (consA (cst (.ty "str")) nilA)))))) nxS)
  (retS (andV (cal oIsiS (consA (vr 0) (consA (cst (.ty "int")) nilA))) (andV (bin oEq (cal oIsiS (consA (vr 0) (consA (cst (.ty "bool")) nilA))) (cal oIsiS (consA (vr 1) (consA (cst (.ty "bool")) nilA)))) (bin oEq (vr 0) (vr 1)))))))
def φ_law_alike (A : Cl) : Nat → Fn
  | 0 => fun _ _ => .no
  | n + 1 => runF 3 (b_law_alike A (φ_law_alike A n))
def b_law_pick (A : Cl) : FS :=
  (retS (bin oIx (vr 1) (app 2 (φ_law_next A) (consA (vr 0) (consA (cal oLen (consA (vr 1) nilA)) nilA)))))
def φ_law_pick (A : Cl) : Fn := runF 2 (b_law_pick A)
def l2_law_parts (A : Cl) : FS :=
  (ifS (tst (bin oEq (app 2 (φ_law_next A) (consA (vr 0) (consA (cst (.int 3)) nilA))) (cst (.int 0)))) (appS (vr 4) (tupV (consA (vr 5) (consA (vr 6) nilA)))) nxS)
def t2_law_parts : FG := (ofN (nmN 6))
def l1_law_parts (A : Cl) : FS :=
  (forS (itR2 (bin oAdd (vr 5) (cst (.int 1))) (vr 2)) t2_law_parts (l2_law_parts A))
def t1_law_parts : FG := (ofN (nmN 5))
def l3_law_parts (A : Cl) : FS :=
  (seqS (setS 9 (cal oTuple (consA (frz (lcN (itR1 (vr 2)) (nmN 10) (tst (bin oEq (app 2 (φ_law_next A) (consA (vr 0) (consA (cst (.int 2)) nilA))) (cst (.int 0)))) (vr 10) [10])) nilA)))
  (appS (vr 7) (ifV (tst (bin oNe (vr 9) (tupV nilA))) (vr 9) (tupV (consA (app 2 (φ_law_next A) (consA (vr 0) (consA (vr 2) nilA))) nilA)))))
def t3_law_parts : FG := (ofN (nmN 8))
def b_law_parts (A : Cl) : FS :=
  (seqS (setS 2 (bin oAdd (cst (.int 1)) (app 2 (φ_law_next A) (consA (vr 0) (consA (cst (.int 4)) nilA)))))
  (seqS (setS 3 (cal oTuple (consA (frz (lcN (itR1 (vr 2)) (nmN 8) yesT (bin oAdd (cst (.int 2)) (app 2 (φ_law_next A) (consA (vr 0) (consA (app 2 (φ_law_pick A) (consA (vr 0) (consA (frz (lstN (consA (cst (.int 3)) (consA (vr 1) nilA)))) nilA))) nilA)))) [8])) nilA)))
  (seqS (ownS 4 (lstN nilA))
  (seqS (forS (itR1 (vr 2)) t1_law_parts (l1_law_parts A))
  (seqS (ownS 7 (lstN nilA))
  (seqS (forS (itR1 (bin oAdd (cst (.int 1)) (app 2 (φ_law_next A) (consA (vr 0) (consA (cst (.int 3)) nilA))))) t3_law_parts (l3_law_parts A))
  (retS (tupV (consA (vr 3) (consA (cal oTuple (consA (vr 4) nilA)) (consA (cal oTuple (consA (vr 7) nilA)) nilA)))))))))))
def φ_law_parts (A : Cl) : Fn := runF 11 (b_law_parts A)
def b_law_standing (A : Cl) : FS :=
  (retS (cal oTuple (consA (frz (lcN (itA (vr 1)) (nmN 2) yesT (app 2 (φ_law_next A) (consA (vr 0) (consA (vr 2) nilA))) [2])) nilA)))
def φ_law_standing (A : Cl) : Fn := runF 3 (b_law_standing A)
def l2_law_turned (A : Cl) : FS :=
  (ifS (tst (bin oEq (vr 11) (vr 9))) (asgS (bin oAdd (bin oIx (vr 8) (vr 12)) (bin oDiv (vr 10) (bin oIx (vr 4) (vr 9)))) (subG (vr 8) (vr 12))) nxS)
def t2_law_turned : FG := (ofN (tupN 2 (consN (nmN 11) (consN (nmN 12) nilN))))
def l1_law_turned (A : Cl) : FS :=
  (seqS (setS 10 (bin oAdd (bin oAdd (bin oIx (vr 1) (vr 9)) (bin oIx (vr 8) (vr 9))) (ifV (tst (bin (oInA false) (vr 9) (vr 2))) (vr 3) (cst (.int 0)))))
  (seqS (appS (vr 7) (bin oMod (cal oInt (consA (vr 10) nilA)) (bin oIx (vr 4) (vr 9))))
  (forS (itA (vr 5)) t2_law_turned (l2_law_turned A))))
def t1_law_turned : FG := (ofN (nmN 9))
def b_law_turned (A : Cl) : FS :=
  (seqS (asgS (vr 0) (ofN (tupN 3 (consN (nmN 4) (consN (nmN 5) (consN (nmN 6) nilN))))))
  (seqS (parS [7, 8] (consMN (lstN nilA) (consMN (binN oRepN (frz (lstN (consA (cst (.int 0)) nilA))) (cal oLen (consA (vr 4) nilA))) nilM)))
  (seqS (forS (itR1 (cal oLen (consA (vr 4) nilA))) t1_law_turned (l1_law_turned A))
  (retS (cal oTuple (consA (vr 7) nilA))))))
def φ_law_turned (A : Cl) : Fn := runF 13 (b_law_turned A)
noncomputable def l1_law_once (A : Cl) : FS :=
  (seqS (popS 5 (vr 4))
  (seqS (asgS (bin oAdd (bin oIx (vr 3) (vr 5)) (cst (.int 1))) (subG (vr 3) (vr 5)))
  (ifS (tst (bin oEq (bin oIx (vr 3) (vr 5)) (bin oIx (bin oIx (vr 0) (cst (.int 0))) (vr 5)))) (seqS (asgS (cst (.int 0)) (subG (vr 3) (vr 5)))
  (ownS 4 (binN oCatN (vr 4) (frz (lcN (itA (bin oIx (vr 0) (cst (.int 1)))) (tupN 2 (consN (nmN 6) (consN (nmN 7) nilN))) (tst (bin oEq (vr 6) (vr 5))) (vr 7) [6, 7]))))) nxS)))
noncomputable def t1_law_once (A : Cl) : FT := (tst (bin oNe (vr 4) (frz (lstN nilA))))
noncomputable def b_law_once (A : Cl) : FS :=
  (seqS (ownS 3 (calN oList (consA (vr 1) nilA)))
  (seqS (ownS 4 (lstN (consA (vr 2) nilA)))
  (seqS (whileS (t1_law_once A) (l1_law_once A))
  (retS (cal oTuple (consA (vr 3) nilA))))))
noncomputable def φ_law_once (A : Cl) : Fn := runF 8 (b_law_once A)
end HW
namespace HW
open PySem PySem.Spec PyProof.Rows L2 DL
def iT (ns : List Int) : D := .tup (ns.map .int)
def pD (p : Nat × Nat) : D := .tup [.int p.1, .int p.2]
def cD (c : List (Nat × Nat)) : D := .tup (c.map pD)
def wI (w : Nat) : D := .int w
def wD (l : List Nat) : D := .tup (l.map wI)
def lD (ls : List (List Nat)) : D := .tup (ls.map wD)
def partsD (m : List Int) (c : List (Nat × Nat)) (l : List (List Nat)) : D := .tup [iT m, cD c, lD l]
def boardD (A : Cl) (m : List Int) (c : List (Nat × Nat)) (l : List (List Nat)) : D := .ins A.Board [("parts", partsD m c l)]
@[simp] theorem isSl_iT {ns : List Int} : (iT ns).isSl = false := rfl
@[simp] theorem isSl_pD {p : Nat × Nat} : (pD p).isSl = false := rfl
@[simp] theorem isSl_cD {c : List (Nat × Nat)} : (cD c).isSl = false := rfl
@[simp] theorem isSl_wI {w : Nat} : (wI w).isSl = false := rfl
@[simp] theorem isSl_wD {l : List Nat} : (wD l).isSl = false := rfl
@[simp] theorem isSl_lD {l : List (List Nat)} : (lD l).isSl = false := rfl
variable {A : Cl} {st : Store}
theorem p_is_integer (i lo hi : Int) : φ_is_integer A [.int i, .int lo, .int hi] st = .ok (.bl (decide (lo ≤ i) && decide (i ≤ hi))) st := by
  by_cases h : lo ≤ i <;> simp [φ_is_integer, b_is_integer, h]
theorem all_ok {α : Type} {F : α → Bool} {env : DL.Env} {as : List α} (h : ∀ a ∈ as, F a = true) : oAll env st [.lst (as.map fun a => .bl (F a))] = .ok (.bl true) st := all_map as h
theorem p_is_marks {m : List Int} (h1 : 1 ≤ m.length) (h4 : m.length ≤ 4) (hp : ∀ x ∈ m, 2 ≤ x ∧ x ≤ 60) : φ_is_marks A [iT m] st = .ok (.bl true) st := by
  have h1' : (1 : Int) ≤ (m.length : Int) := by omega
  have h4' : (m.length : Int) ≤ 4 := by omega
  simp [φ_is_marks, b_is_marks, iT, h1', h4']
  rw [ev_lc1 (by simp; omega) (by simp), wipeE_cons, wipeE_nil]
  rw [lcL_map (G := fun i => .bl (decide ((2 : Int) ≤ i) && decide (i ≤ 60))) m fun a ha => ⟨_, rfl, rfl, by simp [p_is_integer], rfl⟩]
  have hall := all_ok (st := st) (env := [.fz (.tup (m.map .int)), .un]) (F := fun i => decide ((2 : Int) ≤ i) && decide (i ≤ 60)) (as := m) fun a ha => by have := hp a ha; simp [this.1, this.2]
  simp [hall]
def lexP (a b : Nat × Nat) : Prop := a.1 < b.1 ∨ (a.1 = b.1 ∧ a.2 < b.2)
theorem lexI_pair {a b : Nat × Nat} (h : lexP a b) : lexI (fun i j => decide (i ≤ j)) (fun i j => decide (i ≤ j)) [(b.1 : Int), b.2] [(a.1 : Int), a.2] = false := by
  unfold lexI
  rcases h with h | ⟨h, h2⟩
  · have : ¬ (b.1 : Int) = a.1 := by omega
    simp [Ob.lexAt_succ, Ob.lexAt_zero, this]; omega
  · have : ¬ (b.2 : Int) = a.2 := by omega
    simp [Ob.lexAt_succ, Ob.lexAt_zero, this, h]; omega
theorem at0 {a b : D} : atD [a, b] 0 = some a := rfl
theorem at1 {a b : D} : atD [a, b] 1 = some b := rfl
theorem cmp_pair {c z} {env : DL.Env} {a b : Nat × Nat} : oCmpA c z env st (pD a) (pD b) = .ok (.bl (lexI c z [(a.1 : Int), a.2] [(b.1 : Int), b.2])) st := rfl
theorem at_map {α : Type} {F : α → D} {as : List α} {k : Nat} (h : k < as.length) : atD (as.map F) (k : Int) = some (F as[k]) := at_nat (by simp [h])
theorem p_check_frame {m : List Int} {c : List (Nat × Nat)} (h1 : 1 ≤ m.length) (h4 : m.length ≤ 4) (G : Good m c) (hc : c.Pairwise lexP) : φ_check_frame A [iT m, cD c] st = .ok .non st := by
  simp [φ_check_frame, b_check_frame, p_is_marks h1 h4 G.pos]
  simp [cD]
  obtain ⟨e, s, q1, q2⟩ := forL_enum (F := pD) (tg := t1_check_frame) (b := l1_check_frame A) (as := c) (st := st) (env := [.fz (iT m), .fz (cD c), .un, .un])
    (fun k env s => s = st ∧ ∃ x y, env = [.fz (iT m), .fz (cD c), x, y]) (fun k hk env s ⟨hs, x, y, he⟩ => by
      subst hs he
      have hu := G.up _ (List.getElem_mem hk)
      refine ⟨[.fz (iT m), .fz (cD c), .fz (.int k), .fz (pD c[k])], s, ?_, rfl, _, _, rfl⟩
      have e1 : (c[k].1 : Int) ≤ (m.length : Int) - 1 := by omega
      have e2 : ((c[k].1 : Int) + 1 ≤ c[k].2) ∧ (c[k].2 : Int) ≤ (m.length : Int) - 1 := by omega
      simp [t1_check_frame, l1_check_frame, pD, at0, at1, p_is_integer, iT, e1, e2]
      by_cases h0 : k = 0
      · simp [h0]
      · have h0' : (0 : Int) < (k : Int) := by omega
        have e3 : ((k : Int) - 1) = ((k - 1 : Nat) : Int) := by omega
        simp [h0, cD]
        rw [e3, at_map (F := pD) (by omega)]
        have hp : lexP c[k - 1] c[k] := List.pairwise_iff_getElem.mp hc (k - 1) k (by omega) hk (by omega)
        have := cmp_pair (st := s) (env := [.fz (iT m), .fz (cD c), .fz (.int k), .fz (pD c[k])]) (c := fun i j => decide (i ≤ j)) (z := fun i j => decide (i ≤ j)) (a := c[k]) (b := c[k - 1])
        rw [lexI_pair hp] at this
        simp [pD, iT, cD] at this ⊢
        simp [this]) ⟨rfl, _, _, rfl⟩
  obtain ⟨rfl, x, y, rfl⟩ := q2
  simp [cD] at q1
  simp [q1]
theorem p_is_lever {l : List Nat} {n : Nat} (h1 : l ≠ []) (h2 : l.length ≤ 1000) (hs : l.Pairwise (· < ·)) (hn : ∀ w ∈ l, w < n) : φ_is_lever A [wD l, .int n] st = .ok (.bl true) st := by
  have hw : l.map wI = (l.map fun w : Nat => (w : Int)).map D.int := by simp [wI]
  have e0 : oEq [.fz (wD l), .fz (.int n), .un, .un] st (.tup (l.map wI)) (.tup []) = .ok (.bl false) st := by
    rw [hw, eq_nil (by simp; omega)]; simp [h1]
  simp [φ_is_lever, b_is_lever, wD] at e0 ⊢
  simp [e0]
  obtain ⟨e, s, q1, q2⟩ := forL_at (F := wI) (tg := t1_is_lever) (b := l1_is_lever A) (as := l) (st := st) (env := [.fz (wD l), .fz (.int n), .fz (.int (-1)), .un])
    (fun k env s => s = st ∧ ∃ x y, env = [.fz (wD l), .fz (.int n), .fz (.int x), y] ∧ ∀ j (hj : j < l.length), k ≤ j → x < l[j]) (fun k hk env s ⟨hs', x, y, he, hx⟩ => by
      subst hs' he
      refine ⟨[.fz (wD l), .fz (.int n), .fz (.int l[k]), .fz (.int l[k])], s, ?_, rfl, _, _, rfl, fun j hj hkj => ?_⟩
      · have e1 : x + 1 ≤ (l[k] : Int) := by have := hx k hk (Nat.le_refl _); omega
        have e2 : (l[k] : Int) ≤ (n : Int) - 1 := by have := hn _ (List.getElem_mem hk); omega
        simp [t1_is_lever, l1_is_lever, p_is_integer, wI, e1, e2]
      · have := List.pairwise_iff_getElem.mp hs k j hk hj (by omega)
        omega) ⟨rfl, _, _, rfl, fun j hj _ => by omega⟩
  obtain ⟨rfl, x, y, rfl, _⟩ := q2
  simp [wD] at q1
  simp [q1]

/-! new instances -/
theorem mk_ok' {C : Addr} {n : Nat} {φ : Fn} {f : FA} {env : DL.Env} {ds : List D} {s : Store} {fs : List (Str × D)} (h0 : f env st = .ok ds s) (h1 : noSl ds = true) (h2 : ds.length = n) (h3 : φ (.own s.length :: ds) (s ++ [.ins C []]) = .ok .non (s ++ [.ins C fs]))
    (h4 : belF s.length fs = true) (h5 : stBel s.length s = true) : mkF C n φ f env st = .ok (.ins C fs) s := by
  unfold mkF
  rw [h0]
  simp only [Res.bind]
  rw [if_pos ⟨h1, h2⟩, h3]
  have e1 : ((s ++ [Cell.ins C fs]).length == s.length + 1) = true := by simp
  have e2 : (s ++ [Cell.ins C fs])[s.length]? = some (.ins C fs) := by simp
  have e3 : (s ++ [Cell.ins C fs]).take s.length = s := by simp
  simp [e1, e2, e3, h4, h5]
theorem belL_map {α : Type} {n : Nat} {F : α → D} (h : ∀ a, (F a).bel n = true) : ∀ as : List α, belL n (as.map F) = true
  | [] => by simp [belL]
  | a :: r => by simp [belL, h a, belL_map h r]
theorem bel_parts {n : Nat} {m : List Int} {c : List (Nat × Nat)} {l : List (List Nat)} : (partsD m c l).bel n = true := by
  have h1 : (iT m).bel n = true := by simp only [iT, D.bel]; exact belL_map (fun _ => by simp [D.bel]) _
  have h2 : (cD c).bel n = true := by simp only [cD, D.bel]; exact belL_map (fun _ => by simp [pD, D.bel, belL]) _
  have h3 : (lD l).bel n = true := by simp only [lD, D.bel]; exact belL_map (fun _ => by simp only [wD, D.bel]; exact belL_map (fun _ => by simp [wI, D.bel]) _) _
  simp [partsD, D.bel, belL, h1, h2, h3]
structure Levs (n : Nat) (l : List (List Nat)) : Prop where
  some_ : 1 ≤ l.length
  few : l.length ≤ 4
  ne : ∀ v ∈ l, v ≠ []
  srt : ∀ v ∈ l, v.Pairwise (· < ·)
  lt : ∀ v ∈ l, ∀ w ∈ v, w < n
theorem sorted_le' {n : Nat} : ∀ {v : List Nat} {a : Nat}, v.Pairwise (· < ·) → (∀ w ∈ v, a ≤ w ∧ w < n) → v.length ≤ n - a
  | [], _, _, _ => Nat.zero_le _
  | w :: r, a, h1, h2 => by
    have h3 := List.pairwise_cons.mp h1
    have h4 := sorted_le' (a := w + 1) h3.2 fun x hx => ⟨h3.1 x hx, (h2 x (List.mem_cons_of_mem _ hx)).2⟩
    have h5 := h2 w List.mem_cons_self
    rw [List.length_cons]; omega
theorem sorted_le {n : Nat} {v : List Nat} (h1 : v.Pairwise (· < ·)) (h2 : ∀ w ∈ v, w < n) : v.length ≤ n := by
  have := sorted_le' (a := 0) h1 fun w hw => ⟨Nat.zero_le _, h2 w hw⟩
  omega
theorem Levs.small {n : Nat} {l : List (List Nat)} (L : Levs n l) {v : List Nat} (hv : v ∈ l) (hn : n ≤ 4) : v.length ≤ 1000 := by
  have := sorted_le (L.srt v hv) (L.lt v hv)
  omega
structure PartsOk (m : List Int) (c : List (Nat × Nat)) (l : List (List Nat)) : Prop where
  one : 1 ≤ m.length
  four : m.length ≤ 4
  good : Good m c
  lex : c.Pairwise lexP
  levs : Levs m.length l
theorem p_init {m : List Int} {c : List (Nat × Nat)} {l : List (List Nat)} (P : PartsOk m c l) {k : Nat} (hk : st[k]? = some (.ins A.Board [])) : φ_Board_init A [.own k, iT m, cD c, lD l] st = .ok .non (st.set k (.ins A.Board [("parts", partsD m c l)])) := by
  have h1' : (1 : Int) ≤ (l.length : Int) := by have := P.levs.some_; omega
  have h4' : (l.length : Int) ≤ 4 := by have := P.levs.few; omega
  simp [φ_Board_init, b_Board_init, p_check_frame P.one P.four P.good P.lex]
  simp [lD, h1', h4']
  obtain ⟨e, s, q1, q2⟩ := forL_enum (F := wD) (tg := t1_Board_init) (b := l1_Board_init A) (as := l) (st := st) (env := [.fz (.own k), .fz (iT m), .fz (cD c), .fz (lD l), .un, .un])
    (fun i env s => s = st ∧ ∃ x y, env = [.fz (.own k), .fz (iT m), .fz (cD c), .fz (lD l), x, y]) (fun i hi env s ⟨hs, x, y, he⟩ => by
      subst hs he
      have hm := List.getElem_mem hi
      refine ⟨[.fz (.own k), .fz (iT m), .fz (cD c), .fz (lD l), .fz (.int i), .fz (wD l[i])], s, ?_, rfl, _, _, rfl⟩
      have e1 : oLen [.fz (.own k), .fz (iT m), .fz (cD c), .fz (lD l), .fz (.int i), .fz (wD l[i])] s [iT m] = .ok (.int m.length) s := by simp [iT]
      simp [t1_Board_init, l1_Board_init, e1, p_is_lever (P.levs.ne _ hm) (P.levs.small hm P.four) (P.levs.srt _ hm) (P.levs.lt _ hm)]) ⟨rfl, _, _, rfl⟩
  obtain ⟨rfl, x, y, rfl⟩ := q2
  simp [lD] at q1
  simp [q1]
  simp [fldS, Res.toS, ev_tup1, hk, putFD, partsD, lD, DL.ev_consA]

/-! standings -/
theorem getD_mm {m : List Int} {j : Nat} (h : j < m.length) : m[j] = mm m j := by simp [mm, h]
theorem zip2_tab {n : Nat} {x : Nat → Int} {m : List Int} (hn : m.length = n) : zip2 (tab n x) (m.map .int) = (List.range n).map fun i => .tup [.int (x i), .int (mm m i)] := by
  apply List.ext_getElem?
  intro i
  by_cases h : i < n
  · rw [zip2_get _ _ i (.int (x i)) (.int (mm m i)) (tab_get h) (by simp [hn, h, ← getD_mm (show i < m.length by omega)])]
    simp [h]
  · rw [List.getElem?_eq_none (by rw [zip2_length]; simp; omega), List.getElem?_eq_none (by simp; omega)]
theorem p_is_standing {m : List Int} {x : Nat → Int} (h4 : m.length ≤ 1000) (hr : Red m x) : φ_is_standing A [iT m, .tup (tab m.length x)] st = .ok (.bl true) st := by
  simp [φ_is_standing, b_is_standing, iT]
  rw [ev_lc1 (by rw [zip2_length]; simp; omega) (by simp), wipeE_cons, wipeE_cons, wipeE_nil, zip2_tab rfl]
  rw [lcL_map (G := fun i => .bl (decide ((0 : Int) ≤ x i) && decide (x i ≤ mm m i - 1))) (List.range m.length) fun a ha => ⟨_, rfl, rfl, by simp [p_is_integer], rfl⟩]
  have hall := all_ok (st := st) (env := [.fz (.tup (m.map .int)), .fz (.tup (tab m.length x)), .un, .un]) (F := fun i => decide ((0 : Int) ≤ x i) && decide (x i ≤ mm m i - 1)) (as := List.range m.length) fun a ha => by
    have := hr a (List.mem_range.mp ha)
    simp [this.1]; omega
  simp [hall]
theorem p_check_standing {m : List Int} {x : Nat → Int} (h4 : m.length ≤ 1000) (hr : Red m x) : φ_check_standing A [iT m, .tup (tab m.length x)] st = .ok .non st := by
  simp [φ_check_standing, b_check_standing, p_is_standing h4 hr]
theorem p_check_lever {m : List Int} {c : List (Nat × Nat)} {l : List (List Nat)} {lv : Nat} (h : lv < l.length) : φ_check_lever A [boardD A m c l, .int lv] st = .ok .non st := by
  have e : (lv : Int) ≤ (l.length : Int) - 1 := by omega
  have e2 : atD [iT m, cD c, lD l] 2 = some (lD l) := rfl
  simp [φ_check_lever, b_check_lever, boardD, partsD, e2]
  simp [lD, p_is_integer, e]
theorem p_check_times {t : Int} (h1 : -10 ^ 30 ≤ t) (h2 : t ≤ 10 ^ 30) : φ_check_times A [.int t] st = .ok .non st := by
  simp at h1 h2
  simp [φ_check_times, b_check_times, p_is_integer, h1, h2]
/-! whole turns are given on -/
def dl (w : Nat) (q : Int) : Nat → Int := fun i => if i = w then q else 0
theorem sm_cons {p : Nat × Nat} {c : List (Nat × Nat)} {g : Nat → Int} {j : Nat} : sm (p :: c) g j = (if p.2 = j then g p.1 else 0) + sm c g j := by simp [sm]
theorem sm_snoc {p : Nat × Nat} {c : List (Nat × Nat)} {g : Nat → Int} {j : Nat} : sm (c ++ [p]) g j = sm c g j + (if p.2 = j then g p.1 else 0) := by simp [sm, List.sum_append]
theorem sm_take {c : List (Nat × Nat)} {k : Nat} (hk : k < c.length) {g : Nat → Int} {j : Nat} : sm (c.take (k + 1)) g j = sm (c.take k) g j + (if c[k].2 = j then g c[k].1 else 0) := by
  have ht : c.take (k + 1) = c.take k ++ [c[k]] := by rw [List.take_add_one, List.getElem?_eq_getElem hk]; rfl
  rw [ht, sm_snoc]
theorem div_ok {j : Int} (h : 2 ≤ j) (h2 : j ≤ 60) : j ≠ 0 ∧ j.natAbs.log2 < 9000 := by
  refine ⟨by omega, ?_⟩
  have h3 : j.natAbs < 2 ^ 64 := by omega
  rcases Nat.eq_zero_or_pos j.natAbs with h0 | h0
  · rw [h0]; decide
  · have := (Nat.log2_lt (by omega)).mpr h3
    omega
theorem p_carry {m : List Int} {c : List (Nat × Nat)} (G : Good m c) {w : Nat} {q : Int} {f : Nat → Int} {x0 x2 x5 : DL.Slot} {a7 a8 : DL.Slot} :
    ∃ a7' a8', forL t2_settled (l2_settled A) (c.map pD) [x0, .fz (cD c), x2, .ol (tab m.length f), .fz (.int w), x5, .fz (.int q), a7, a8] st = .nx [x0, .fz (cD c), x2, .ol (tab m.length fun j => f j + sm c (dl w q) j), .fz (.int w), x5, .fz (.int q), a7', a8'] st := by
  obtain ⟨e, s, q1, q2⟩ := forL_at (F := pD) (tg := t2_settled) (b := l2_settled A) (as := c) (st := st) (env := [x0, .fz (cD c), x2, .ol (tab m.length f), .fz (.int w), x5, .fz (.int q), a7, a8])
    (fun k env s => s = st ∧ ∃ x y, env = [x0, .fz (cD c), x2, .ol (tab m.length fun j => f j + sm (c.take k) (dl w q) j), .fz (.int w), x5, .fz (.int q), x, y]) (fun k hk env s ⟨hs, x, y, he⟩ => by
      subst hs he
      have hu := G.up _ (List.getElem_mem hk)
      refine ⟨_, s, ?_, rfl, .fz (.int c[k].1), .fz (.int c[k].2), rfl⟩
      by_cases hw : c[k].1 = w
      · simp [t2_settled, l2_settled, pD, hw, at_tab hu.2, set_tab hu.2]
        apply tab_congr
        intro i hi
        rw [sm_take hk]
        simp only [upF, dl, hw, if_true]
        by_cases hi2 : i = c[k].2
        · subst hi2; simp; omega
        · have hi3 : ¬ c[k].2 = i := fun e => hi2 e.symm
          simp [hi2, hi3]
      · have hw' : ¬ (c[k].1 : Int) = (w : Int) := by omega
        simp [t2_settled, l2_settled, pD, hw']
        apply tab_congr
        intro i hi
        rw [sm_take hk]
        simp [dl, hw]) ⟨rfl, a7, a8, by
          have : tab m.length (fun j => f j + sm (c.take 0) (dl w q) j) = tab m.length f := tab_congr fun i _ => by simp [sm]
          rw [this]⟩
  obtain ⟨rfl, x, y, rfl⟩ := q2
  rw [List.take_length] at q1
  exact ⟨x, y, q1⟩

theorem p_settled {m : List Int} {c : List (Nat × Nat)} (G : Good m c) (h4 : m.length ≤ 1000) {x : Nat → Int} {T : D} (hT : T = .tup (tab m.length x) ∨ T = .lst (tab m.length x)) :
    ∃ y, φ_settled A [iT m, cD c, T] st = .ok (.tup (tab m.length y)) st ∧ Red m y ∧ Cong m c x y := by
  have e1 : ∀ env : DL.Env, oList env st [T] = .ok (tab m.length x) st := fun env => by rcases hT with rfl | rfl <;> simp
  obtain ⟨e, s, q1, q2⟩ := forL_enum (F := D.int) (tg := t1_settled) (b := l1_settled A) (as := m) (st := st) (env := [.fz (iT m), .fz (cD c), .fz T, .ol (tab m.length x), .un, .un, .un, .un, .un])
    (fun w env s => s = st ∧ ∃ f K a4 a5 a6 a7 a8, env = [.fz (iT m), .fz (cD c), .fz T, .ol (tab m.length f), a4, a5, a6, a7, a8] ∧ CongK m c K x f ∧ (∀ i, w ≤ i → K i = 0) ∧ ∀ j, j < w → 0 ≤ f j ∧ f j < mm m j)
    (fun w hw env s ⟨hs, f, K, a4, a5, a6, a7, a8, he, hK, hz, hf⟩ => by
      subst hs he
      have hm := G.mm hw
      have hd := div_ok hm.1 hm.2
      have hne : mm m w ≠ 0 := by omega
      obtain ⟨b7, b8, q⟩ := p_carry (A := A) (st := s) G (w := w) (q := (f w).fdiv (mm m w)) (f := upF f w ((f w).fmod (mm m w))) (x0 := .fz (iT m)) (x2 := .fz T) (x5 := .fz (.int (mm m w))) (a7 := a7) (a8 := a8)
      refine ⟨_, s, ?_, rfl, fun j => upF f w ((f w).fmod (mm m w)) j + sm c (dl w ((f w).fdiv (mm m w))) j, fun i => K i + dl w ((f w).fdiv (mm m w)) i, .fz (.int w), .fz (.int (mm m w)), .fz (.int ((f w).fdiv (mm m w))), b7, b8, rfl, ?_, ?_, ?_⟩
      · simp only [getD_mm hw]
        simp [t1_settled, l1_settled, at_tab hw, hd, hne, set_tab hw, cD] at q ⊢
        exact q
      · intro j hj
        rw [sm_add]
        have h1 := hK j hj
        by_cases hjw : j = w
        · subst hjw
          have h2 := hz j (Nat.le_refl _)
          have h3 := Int.mul_fdiv_add_fmod (f j) (mm m j)
          simp only [upF, dl, if_true, h2]
          rw [h2] at h1
          simp at h1 ⊢
          omega
        · simp only [upF, dl, hjw, if_false, Int.add_zero]
          omega
      · intro i hi
        have h0 := hz i (by omega)
        have : ¬ i = w := by omega
        simp [dl, this, h0]
      · intro j hj
        have hs0 : sm c (dl w ((f w).fdiv (mm m w))) j = 0 := sm_zero fun p hp hpj => by
          have := G.up p hp
          simp only [dl]
          rw [if_neg (by omega)]
        simp only [hs0, upF]
        by_cases hjw : j = w
        · subst hjw
          have h1 := Int.emod_nonneg (f j) hne
          have h2 := Int.emod_lt_of_pos (f j) (show 0 < mm m j by omega)
          rw [← Int.fmod_eq_emod_of_nonneg (f j) (show 0 ≤ mm m j by omega)] at h1 h2
          simp; omega
        · have := hf j (by omega)
          simp [hjw]; omega) ⟨rfl, x, fun _ => 0, _, _, _, _, _, rfl, fun j _ => by rw [sm_zero fun _ _ _ => rfl]; simp, fun _ _ => rfl, fun j hj => by omega⟩
  obtain ⟨rfl, f, K, a4, a5, a6, a7, a8, rfl, hK, _, hf⟩ := q2
  refine ⟨f, ?_, fun j hj => hf j hj, K, hK⟩
  simp [φ_settled, b_settled, iT, e1] at q1 ⊢
  simp [q1]

/-! pushes -/
def mv (lv : List Nat) (t : Int) : Nat → Int := fun i => if i ∈ lv then t else 0
theorem eqV_int (a b : Int) : eqV (V.int a) (V.int b) = decide (a = b) := by
  by_cases h : a = b <;> simp [eqV, h]
theorem inV_nat {w : Nat} : ∀ lv : List Nat, inV (V.int w) ((lv.map fun w : Nat => (w : Int)).map V.int) = decide (w ∈ lv)
  | [] => rfl
  | a :: r => by
    have ih := inV_nat (w := w) r
    unfold inV at *
    simp only [List.map_cons, List.any_cons, ih, eqV_int]
    by_cases h : a = w
    · subst h; simp
    · have h2 : ¬ w = a := fun e => h e.symm
      have h3 : ¬ (a : Int) = w := by omega
      simp [h2, h3]
theorem in_lever {env : DL.Env} {w : Nat} {lv : List Nat} : oInA false env st (.int w) (wD lv) = .ok (.bl (decide (w ∈ lv))) st := by
  have hw : lv.map wI = (lv.map fun w : Nat => (w : Int)).map D.int := by simp [wI]
  have e : seqA env st (wD lv) = some (lv.map wI) := rfl
  unfold oInA
  simp only [flatD, e, hw, flatL_ints, inV_nat]
  rfl
theorem enum_tab {n : Nat} {x : Nat → Int} : enumFrom 0 (tab n x) = (List.range n).map fun i => .tup [.int i, .int (x i)] := by
  apply List.ext_getElem?
  intro i
  rw [enumFrom_get]
  by_cases h : i < n
  · rw [tab_get h]; simp [h]
  · rw [List.getElem?_eq_none (by simp; omega), List.getElem?_eq_none (by simp; omega)]; rfl
theorem p_moved {m : List Int} {c : List (Nat × Nat)} (G : Good m c) (h4 : m.length ≤ 1000) {x : Nat → Int} {lv : List Nat} {t : Int} :
    ∃ y, φ_moved A [iT m, cD c, .tup (tab m.length x), wD lv, .int t] st = .ok (.tup (tab m.length y)) st ∧ Red m y ∧ Cong m c (fun i => x i + mv lv t i) y := by
  obtain ⟨y, h1, h2, h3⟩ := p_settled (A := A) (st := st) G h4 (x := fun i => x i + mv lv t i) (.inr rfl)
  refine ⟨y, ?_, h2, h3⟩
  simp [φ_moved, b_moved, enum_tab]
  rw [ev_lc1 (by simp; omega) (by simp), wipeE_cons, wipeE_cons, wipeE_nil]
  rw [lcL_map (G := fun i => .int (x i + mv lv t i)) (List.range m.length) fun a ha => ⟨_, rfl, rfl, by
    by_cases h : a ∈ lv <;> simp [in_lever, mv, h], rfl⟩]
  have e : ((List.range m.length).map fun i => D.int (x i + mv lv t i)) = tab m.length fun i => x i + mv lv t i := rfl
  rw [e]
  simp [h1]
theorem p_pushed {m : List Int} {c : List (Nat × Nat)} {l : List (List Nat)} (G : Good m c) (h4 : m.length ≤ 1000) {x : Nat → Int} {lv : Nat} (hl : lv < l.length) {t : Int} :
    ∃ y, φ_pushed A [boardD A m c l, .tup (tab m.length x), .int lv, .int t] st = .ok (.tup (tab m.length y)) st ∧ Red m y ∧ Cong m c (fun i => x i + mv l[lv] t i) y := by
  obtain ⟨y, h1, h2, h3⟩ := p_moved (A := A) (st := st) G h4 (x := x) (lv := l[lv]) (t := t)
  refine ⟨y, ?_, h2, h3⟩
  simp [φ_pushed, b_pushed, boardD, partsD, lD, at_map hl, h1]
theorem p_push {m : List Int} {c : List (Nat × Nat)} {l : List (List Nat)} (G : Good m c) (h4 : m.length ≤ 1000) {x : Nat → Int} (hr : Red m x) {lv : Nat} (hl : lv < l.length) {t : Int} (t1 : -10 ^ 30 ≤ t) (t2 : t ≤ 10 ^ 30) :
    ∃ y, φ_push A [boardD A m c l, .tup (tab m.length x), .int lv, .int t] st = .ok (.tup (tab m.length y)) st ∧ Red m y ∧ Cong m c (fun i => x i + mv l[lv] t i) y := by
  obtain ⟨y, h1, h2, h3⟩ := p_pushed (A := A) (st := st) G h4 (x := x) hl (t := t)
  refine ⟨y, ?_, h2, h3⟩
  have e2 : atD [iT m, cD c, lD l] 0 = some (iT m) := rfl
  have e3 := p_check_lever (A := A) (st := st) (m := m) (c := c) hl
  simp [boardD, partsD] at h1 e3
  simp [φ_push, b_push, boardD, partsD, e2, e3, p_check_standing h4 hr, p_check_times t1 t2, h1]
end HW
namespace HW
open PySem PySem.Spec PyProof.Rows L2 DL
variable {A : Cl} {st : Store}
/-! ### the draws -/
def hst (cells : List Int) (s k : Int) : Store := [.lst (cells.map .int), .lst [.int s, .own 0, .int k]]
structure HS (st : Store) : Prop where
  ex : ∃ cells s k, st = hst cells s k ∧ cells.length ≤ 63
theorem mul_ok {i j : Int} (h : -(2 ^ 64) < j ∧ j < 2 ^ 64) : mulOk i j = true := decide_eq_true (.inl (.inr h))
theorem mul_ok' {i j : Int} (h : -(2 ^ 64) < i ∧ i < 2 ^ 64) : mulOk i j = true := decide_eq_true (.inl (.inl h))
theorem p_law_mix {ns : List Int} {seed : Int} (hl : ns.length ≤ 63) : ∃ st', φ_law_mix A [scrOf ns, .int seed] [] = .ok (.own 1) st' ∧ HS st' := by
  obtain ⟨e, s, q1, q2⟩ := forL_at (F := D.int) (tg := t1_law_mix) (b := l1_law_mix A) (as := ns) (st := []) (env := [.fz (scrOf ns), .fz (.int seed), .fz (.int seed), .un])
    (fun _ env s => s = [] ∧ ∃ x y, env = [.fz (scrOf ns), .fz (.int seed), .fz (.int x), y]) (fun k hk env s ⟨hs, x, y, he⟩ => by
      subst hs he
      refine ⟨_, [], ?_, rfl, (x * 48271 + ns[k].fmod 2147483629 + 1).fmod 2147483647, .fz (.int ns[k]), rfl⟩
      simp [t1_law_mix, l1_law_mix, mul_ok (i := x) (j := 48271) (by omega)]) ⟨rfl, _, _, rfl⟩
  obtain ⟨rfl, x, y, rfl⟩ := q2
  refine ⟨hst ns x 0, ?_, ns, x, 0, rfl, hl⟩
  have e1 : ∀ env : DL.Env, oList env [] [scrOf ns] = .ok (ns.map .int) [] := fun _ => rfl
  have e2 : itA1 () (scrOf ns) [] = .ok (ns.map .int) [] := rfl
  have e3 : (scrOf ns).isSl = false := rfl
  simp [φ_law_mix, b_law_mix, e2, e3]
  simp [q1, e1, ro1, cellsOf, hst, noD]
theorem pow_ok {i j : Int} (h1 : 0 ≤ j) (h2 : j ≤ 1000000) (h3 : i.natAbs < 2 ^ 64) : powOk i j = true := decide_eq_true ⟨h1, h2, h3⟩
theorem log2_lt {j : Int} {b : Nat} (hb : 0 < b) (h : 0 < j) (h2 : j < 2 ^ b) : j.natAbs.log2 < b := by
  have h3 : j.natAbs < 2 ^ b := by
    have : (j.natAbs : Int) < ((2 ^ b : Nat) : Int) := by
      rw [Int.natCast_pow]; have : (j.natAbs : Int) = j := by omega
      rw [this]; exact h2
    omega
  exact (Nat.log2_lt (by omega)).mpr h3
theorem fmod_range {a b : Int} (h : 0 < b) : 0 ≤ a.fmod b ∧ a.fmod b < b := by
  rw [Int.fmod_eq_emod_of_nonneg a (Int.le_of_lt h)]
  exact ⟨Int.emod_nonneg _ (by omega), Int.emod_lt_of_pos _ h⟩
theorem at_three0 {a b c : D} : atD [a, b, c] 0 = some a := rfl
theorem at_three1 {a b c : D} : atD [a, b, c] 1 = some b := rfl
theorem at_three2 {a b c : D} : atD [a, b, c] 2 = some c := rfl
theorem p_law_next (H : HS st) {cap : Int} (h1 : 1 ≤ cap) (h2 : cap < 2 ^ 200) : ∃ r st', φ_law_next A [.own 1, .int cap] st = .ok (.int r) st' ∧ HS st' ∧ 0 ≤ r ∧ r < cap := by
  obtain ⟨cells, s, k, rfl, hl⟩ := H.ex
  obtain ⟨M, hM⟩ : ∃ M : Int, M = if 1 < (cells.length : Int) then (cells.length : Int) else 1 := ⟨_, rfl⟩
  have hM0 : 0 < M := by rw [hM]; split <;> omega
  have hM1 : M ≠ 0 := by omega
  have hr := fmod_range (a := k) hM0
  obtain ⟨j, hj⟩ : ∃ j : Nat, k.fmod M = (j : Int) := ⟨(k.fmod M).toNat, by omega⟩
  have hj3 : j < (cells ++ [0]).length := by
    rw [hj] at hr
    rw [hM] at hr
    simp
    split at hr <;> omega
  have hc : cells.map D.int ++ [D.int 0] = (cells ++ [0]).map D.int := by simp
  have hcap : cap ≠ 0 := by omega
  have hlog : cap.natAbs.log2 < 9000 := Nat.lt_trans (log2_lt (b := 200) (by omega) (by omega) h2) (by omega)
  have hp : powOk 10 18 = true := by decide +kernel
  have ecat := ev_catO (xs := cells.map D.int) (ys := [D.int 0]) (st := hst cells s k) (by simp; omega)
  have hat := at_map (F := D.int) hj3
  generalize hx : (cells ++ [0])[j] = x at hat
  rw [← hc] at hat
  simp only [hst] at ecat
  have hm1 : mulOk s 48271 = true := mul_ok (by omega)
  have hm2 : mulOk x 69621 = true := mul_ok (by omega)
  by_cases hbig : (10 : Int) ^ 18 ≤ x
  · have hjl : j < cells.length := by
      by_cases q : j < cells.length
      · exact q
      · exfalso
        rw [List.getElem_append_right (by omega)] at hx
        simp at hx
        omega
    have hMl : M = cells.length := by rw [hM]; split <;> omega
    have hlen : ¬ cells.length = 0 := by omega
    refine ⟨x.fmod cap, hst (cells.set j (x.fdiv cap)) s k, ?_, ⟨_, _, _, rfl, by simpa using hl⟩, fmod_range (by omega)⟩
    have hs : setAt (j : Int) (.int (x.fdiv cap)) (cells.map D.int) = some ((cells.set j (x.fdiv cap)).map .int) := by
      rw [set_nat (by simpa using hjl), List.map_set]
    rw [hMl] at hj hM
    simp at hbig
    simp [φ_law_next, b_law_next, hst, at_three0, at_three1, at_three2, ecat, ← hM, hj, hlen, hat, hp, hbig, hcap, hlog, hs]
  · refine ⟨(((s * 48271 + x * 69621 + 11).fmod 2147483647).fdiv 7).fmod cap, hst cells ((s * 48271 + x * 69621 + 11).fmod 2147483647) (k + 1), ?_, ⟨_, _, _, rfl, hl⟩, fmod_range (by omega)⟩
    simp at hbig
    have hb : ¬ (1000000000000000000 : Int) ≤ x := by omega
    have h7 : Nat.log2 7 < 9000 := by decide +kernel
    have s0 : ∀ a b c d : D, setAt 0 d [a, b, c] = some [d, b, c] := fun _ _ _ _ => rfl
    have s2 : ∀ a b c d : D, setAt 2 d [a, b, c] = some [a, b, d] := fun _ _ _ _ => rfl
    simp [φ_law_next, b_law_next, hst, at_three0, at_three1, at_three2, ecat, ← hM, hM1, hj, hat, hp, hb, hcap, hlog, hm1, hm2, s0, s2, h7]

/-! the same found -/
theorem isi_tl {env : DL.Env} {d : D} {t : String} (h : tyD d = some t) : oIsi env st [d, .tup [.ty "tuple", .ty "list"]] = .ok (.bl (isiB t "tuple" || isiB t "list")) st := by
  have e : clsOk [.ty "tuple", .ty "list"] = some ["tuple", "list"] := rfl
  unfold oIsi
  simp only [h, e]
  rw [if_pos (by decide +kernel)]
  simp
theorem isi_1 {env : DL.Env} {d : D} {t c : String} (h : tyD d = some t) (hc : okTy c = true) : oIsi env st [d, .ty c] = .ok (.bl (isiB t c)) st := by
  unfold oIsi
  simp only [h]
  rw [if_pos hc]
theorem isi_tlS {env : DL.Env} {d : D} {t : String} (h : tyS st d = some t) : oIsiS env st [d, .tup [.ty "tuple", .ty "list"]] = .ok (.bl (isiB t "tuple" || isiB t "list")) st := by
  have e : clsOk [.ty "tuple", .ty "list"] = some ["tuple", "list"] := rfl
  unfold oIsiS
  simp only [h, e]
  rw [if_pos (by decide +kernel)]
  simp
theorem isi_1S {env : DL.Env} {d : D} {t c : String} (h : tyS st d = some t) (hc : okTy c = true) : oIsiS env st [d, .ty c] = .ok (.bl (isiB t c)) st := by
  unfold oIsiS
  simp only [h]
  rw [if_pos hc]
theorem eq_bl {env : DL.Env} {a b : Bool} : oEq env st (.bl a) (.bl b) = .ok (.bl (decide (a = b))) st := by
  cases a <;> cases b <;> rfl
theorem ne_bl {env : DL.Env} {a b : Bool} : oNe env st (.bl a) (.bl b) = .ok (.bl (!decide (a = b))) st := by
  cases a <;> cases b <;> rfl
theorem is_non {env : DL.Env} {d : D} : oIs false env st d .non = .ok (.bl d.isNon) st := rfl
theorem plainL_get : ∀ {n : Nat} {xs : List D} {k : Nat} (hk : k < xs.length), plainL n xs = true → (xs[k]).plain n = true
  | n, x :: r, 0, _, h => by simp at h; exact h.1
  | n, x :: r, k + 1, hk, h => by simp at h; exact plainL_get (xs := r) (by simpa using hk) h.2
theorem plain_sl {n : Nat} {d : D} (h : d.plain n = true) : d.isSl = false := by
  cases d <;> first | rfl | (cases n <;> simp [D.plain] at h)
theorem rng_nat {n : Nat} (h : n ≤ 100000) : rngOk (n : Int) = true := rng_ok (by omega) (by omega)
theorem p_alike_seq2 {r : Fn} {xs ys : List D} {c : String} {d d' : D} (hty : tyS st d = some c) (hty' : tyS st d' = some c) (hc : c = "tuple" ∨ c = "list") (hsl : d.isSl = false) (hsl' : d'.isSl = false) (hlen : ∀ env : DL.Env, oLen env st [d] = .ok (.int xs.length) st) (hlen' : ∀ env : DL.Env, oLen env st [d'] = .ok (.int xs.length) st)
    (hix : ∀ (env : DL.Env) (k : Nat) (hk : k < xs.length), oIx env st d (.int k) = .ok xs[k] st) (hix' : ∀ (env : DL.Env) (k : Nat) (hk : k < xs.length), oIx env st d' (.int k) = .ok (ys.getD k .non) st)
    (hl : xs.length ≤ 100000) (hx : ∀ k (hk : k < xs.length), (xs[k]).isSl = false ∧ (ys.getD k .non).isSl = false) (ih : ∀ k (hk : k < xs.length), r [xs[k], ys.getD k .non] st = .ok (.bl true) st) :
    runF 3 (b_law_alike A r) [d, d'] st = .ok (.bl true) st := by
  have hisi : isiB c "tuple" = true ∨ isiB c "list" = true := by rcases hc with rfl | rfl <;> decide
  have h1 := fun env : DL.Env => isi_tlS (st := st) (env := env) hty
  have h1' := fun env : DL.Env => isi_tlS (st := st) (env := env) hty'
  have h2 := fun env : DL.Env => isi_1S (st := st) (env := env) (c := "list") hty (by decide)
  have h2' := fun env : DL.Env => isi_1S (st := st) (env := env) (c := "list") hty' (by decide)
  have he : ∀ a b : Bool, a = true ∨ b = true → (a || b) = true := by decide
  rw [he _ _ hisi] at h1 h1'
  simp [b_law_alike, h1, h1', h2, h2', ne_bl, hlen, hlen', rng_nat hl, hsl, hsl']
  rw [ev_lc1 (by simp [rngD]; omega) (by simp), wipeE_cons, wipeE_nil]
  obtain ⟨zs, s, q1, q2, q3⟩ := lcL_inv (g := nmN 2) (t := notT (tst (app 2 r (consA (bin oIx (vr 0) (vr 2)) (consA (bin oIx (vr 1) (vr 2)) nilA))))) (el := vr 2) (F := fun (i : Nat) => D.int (0 + (i : Int))) (env0 := [.fz d, .fz d', .un])
    (fun l ys s => ys = [] ∧ s = st ∧ ∀ i ∈ l, i < xs.length) (fun i l ys s ⟨h1, h2, h3⟩ => by
      subst h1 h2
      have hi := h3 i List.mem_cons_self
      have hpi := hx i hi
      refine ⟨_, rfl, .inl ⟨s, ?_, rfl, rfl, fun j hj => h3 j (List.mem_cons_of_mem _ hj)⟩⟩
      have ihi := ih i hi
      have hxi := hix' (env := [.fz d, .fz d', .fz (.int i)]) i hi
      have e1 := hpi.2
      generalize ys.getD i .non = yi at ihi hxi e1
      simp [hix _ _ hi, hxi, hpi.1, e1, ihi]) (List.range xs.length) [] st ⟨rfl, rfl, fun i hi => List.mem_range.mp hi⟩
  have hz : zs = [] := by simpa using q2
  subst hz
  obtain ⟨rfl, _⟩ := q3
  have hq : lcL (nmN 2) (notT (tst (app 2 r (consA (bin oIx (vr 0) (vr 2)) (consA (bin oIx (vr 1) (vr 2)) nilA))))) (vr 2) [.fz d, .fz d', .un] (rngD 0 xs.length) s = .ok [] s := q1
  have e0 : ∀ env : DL.Env, oEq env s (.lst []) (.lst []) = .ok (.bl true) s := fun env => eq_refl' (n := 1) (by simp) (by omega)
  simp [hq, e0]
theorem getD_get {xs : List D} {k : Nat} (h : k < xs.length) : xs.getD k .non = xs[k] := by simp [h]
theorem p_alike_seq {n : Nat} {r : Fn} {xs : List D} {c : String} {d : D} (hd : (c = "tuple" ∧ d = .tup xs) ∨ (c = "list" ∧ d = .lst xs)) (hl : xs.length ≤ 100000) (hp : plainL n xs = true) (ih : ∀ x, x.plain n = true → r [x, x] st = .ok (.bl true) st) :
    runF 3 (b_law_alike A r) [d, d] st = .ok (.bl true) st := by
  have hty : tyS st d = some c := by rcases hd with ⟨rfl, rfl⟩ | ⟨rfl, rfl⟩ <;> rfl
  have hsl : d.isSl = false := by rcases hd with ⟨rfl, rfl⟩ | ⟨rfl, rfl⟩ <;> rfl
  have hlen : ∀ env : DL.Env, oLen env st [d] = .ok (.int xs.length) st := by intro env; rcases hd with ⟨rfl, rfl⟩ | ⟨rfl, rfl⟩ <;> rfl
  have hix : ∀ (env : DL.Env) (k : Nat) (hk : k < xs.length), oIx env st d (.int k) = .ok xs[k] st := by
    intro env k hk
    have e : atD xs (k : Int) = some xs[k] := at_nat (List.getElem?_eq_getElem hk)
    rcases hd with ⟨rfl, rfl⟩ | ⟨rfl, rfl⟩ <;> simp [e]
  refine p_alike_seq2 (ys := xs) hty hty (hd.imp (·.1) (·.1)) hsl hsl hlen hlen hix (fun env k hk => by rw [getD_get hk]; exact hix env k hk) hl (fun k hk => ?_) fun k hk => ?_
  · rw [getD_get hk]
    have := plain_sl (plainL_get hk hp)
    exact ⟨this, this⟩
  · rw [getD_get hk]
    exact ih _ (plainL_get hk hp)
/-- a list of the store, and what it holds -/
theorem p_alike_own {n k i : Nat} {xs : List D} (hi : st[i]? = some (.lst xs)) (hl : xs.length ≤ 100000) (hp : plainL k xs = true) (ih : ∀ x, x.plain k = true → φ_law_alike A n [x, x] st = .ok (.bl true) st) : φ_law_alike A (n + 1) [.own i, .lst xs] st = .ok (.bl true) st := by
  have hty : tyS st (.own i) = some "list" := by simp [tyS, hi]
  have hq : ∀ env : DL.Env, seqA env st (.own i) = some xs := fun env => by simp [seqA, seqR, seqL, hi]
  refine p_alike_seq2 (ys := xs) hty rfl (.inr rfl) rfl rfl (fun env => by unfold oLen; simp only [hq]) (fun _ => rfl) (fun env k hk => ?_) (fun env k hk => ?_) hl (fun k hk => ?_) fun k hk => ?_
  · have e : atD xs (k : Int) = some xs[k] := at_nat (List.getElem?_eq_getElem hk)
    unfold oIx; simp only [hq, e]
  · rw [getD_get hk]
    have e : atD xs (k : Int) = some xs[k] := at_nat (List.getElem?_eq_getElem hk)
    simp [e]
  · rw [getD_get hk]
    have := plain_sl (plainL_get hk hp)
    exact ⟨this, this⟩
  · rw [getD_get hk]
    exact ih _ (plainL_get hk hp)
/-- a list of things, each alike its own -/
theorem p_alike_each {n : Nat} {xs ys : List D} (hl : xs.length ≤ 100000) (hy : ys.length = xs.length) (h : ∀ k (hk : k < xs.length), (xs[k]).isSl = false ∧ (ys.getD k .non).isSl = false ∧ φ_law_alike A n [xs[k], ys.getD k .non] st = .ok (.bl true) st) : φ_law_alike A (n + 1) [.lst xs, .lst ys] st = .ok (.bl true) st := by
  refine p_alike_seq2 (ys := ys) rfl rfl (.inr rfl) rfl rfl (fun _ => rfl) (fun _ => by simp [hy]) (fun env k hk => ?_) (fun env k hk => ?_) hl (fun k hk => ⟨(h k hk).1, (h k hk).2.1⟩) fun k hk => (h k hk).2.2
  · have e : atD xs (k : Int) = some xs[k] := at_nat (List.getElem?_eq_getElem hk)
    simp [e]
  · have e : atD ys (k : Int) = some ys[k] := at_nat (List.getElem?_eq_getElem (by omega))
    rw [getD_get (by omega)]
    simp [e]
theorem p_alike : ∀ (n : Nat) (d : D), d.plain n = true → n ≤ 64 → φ_law_alike A (n + 1) [d, d] st = .ok (.bl true) st
  | n, .non, _, _ => by
    have h1 := fun env : DL.Env => isi_tlS (st := st) (env := env) (d := .non) rfl
    have h2 := fun env : DL.Env => isi_1S (st := st) (env := env) (d := .non) (c := "str") rfl (by decide)
    have e0 : ∀ env : DL.Env, oEq env st .non .non = .ok (.bl true) st := fun env => eq_refl' (n := 1) (by simp) (by omega)
    simp [φ_law_alike, b_law_alike, h1, h2, is_non, D.isNon, e0, eq_bl, isiB]
  | n, .bl b, _, _ => by
    have h1 := fun env : DL.Env => isi_tlS (st := st) (env := env) (d := .bl b) rfl
    have h2 := fun (env : DL.Env) (c : String) => isi_1S (st := st) (env := env) (d := .bl b) (c := c) rfl
    have o1 : okTy "str" = true := by decide
    have o2 : okTy "int" = true := by decide
    have o3 : okTy "bool" = true := by decide
    simp [φ_law_alike, b_law_alike, h1, h2, is_non, D.isNon, eq_bl, isiB, o1, o2, o3]
  | n, .int i, _, _ => by
    have h1 := fun env : DL.Env => isi_tlS (st := st) (env := env) (d := .int i) rfl
    have h2 := fun (env : DL.Env) (c : String) => isi_1S (st := st) (env := env) (d := .int i) (c := c) rfl
    have o1 : okTy "str" = true := by decide
    have o2 : okTy "int" = true := by decide
    have o3 : okTy "bool" = true := by decide
    simp [φ_law_alike, b_law_alike, h1, h2, is_non, D.isNon, eq_bl, isiB, o1, o2, o3]
  | n, .str x, h, _ => by
    have h1 := fun env : DL.Env => isi_tlS (st := st) (env := env) (d := .str x) rfl
    have h2 := fun (env : DL.Env) (c : String) => isi_1S (st := st) (env := env) (d := .str x) (c := c) rfl
    have o1 : okTy "str" = true := by decide
    have e0 : ∀ env : DL.Env, oEq env st (.str x) (.str x) = .ok (.bl true) st := fun env => eq_refl' (n := 1) (by simpa using h) (by omega)
    simp [φ_law_alike, b_law_alike, h1, h2, is_non, D.isNon, eq_bl, isiB, o1, e0]
  | n + 1, .tup xs, h, hn => by
    simp at h
    exact p_alike_seq (n := n) (.inl ⟨rfl, rfl⟩) h.1 h.2 fun x hx => p_alike n x hx (by omega)
  | n + 1, .lst xs, h, hn => by
    simp at h
    exact p_alike_seq (n := n) (.inr ⟨rfl, rfl⟩) h.1 h.2 fun x hx => p_alike n x hx (by omega)
  | 0, .tup _, h, _ => by simp [D.plain] at h
  | 0, .lst _, h, _ => by simp [D.plain] at h
  | _, .scr _, h, _ => by simp [D.plain] at h
  | _, .own _, h, _ => by simp [D.plain] at h
  | _, .sl _, h, _ => by simp [D.plain] at h
  | _, .ins _ _, h, _ => by simp [D.plain] at h
  | _, .ty _, h, _ => by simp [D.plain] at h
  | _, .cls _, h, _ => by simp [D.plain] at h
end HW
namespace HW
open PySem PySem.Spec PyProof.Rows L2 DL
variable {A : Cl} {st : Store}
theorem p_law_pick (H : HS st) {xs : List D} (h1 : 1 ≤ xs.length) (h2 : xs.length ≤ 100000) (hs : noSl xs = true) : ∃ (k : Nat) (hk : k < xs.length) (st' : Store), φ_law_pick A [.own 1, .lst xs] st = .ok xs[k] st' ∧ HS st' := by
  obtain ⟨r, st', q1, q2, q3, q4⟩ := p_law_next (A := A) H (cap := xs.length) (by omega) (by omega)
  obtain ⟨k, rfl⟩ : ∃ k : Nat, r = k := ⟨r.toNat, by omega⟩
  have hk : k < xs.length := by omega
  refine ⟨k, hk, st', ?_, q2⟩
  have e : atD xs (k : Int) = some xs[k] := at_nat (List.getElem?_eq_getElem hk)
  have hsl : ∀ {xs : List D} {k : Nat} (hk : k < xs.length), noSl xs = true → xs[k].isSl = false := by
    intro xs
    induction xs with
    | nil => intro k hk; simp at hk
    | cons a r ih =>
      intro k hk h
      simp at h
      cases k with
      | zero => exact h.1
      | succ k => exact ih (by simpa using hk) h.2
  simp [φ_law_pick, b_law_pick, q1, e, hsl hk hs]
theorem p_law_standing (H : HS st) {m : List Int} (hp : ∀ x ∈ m, 1 ≤ x ∧ x ≤ 1000) (hl : m.length ≤ 1000) : ∃ x st', φ_law_standing A [.own 1, iT m] st = .ok (.tup (tab m.length x)) st' ∧ HS st' ∧ Red m x := by
  have e2 : itA1 () (iT m) st = .ok (m.map .int) st := rfl
  simp [φ_law_standing, b_law_standing, e2]
  rw [ev_lc1 (by simp; omega) (by simp), wipeE_cons, wipeE_nil]
  obtain ⟨zs, s, q1, ns, q2, q3, q4⟩ := lcL_inv (g := nmN 2) (t := yesT) (el := app 2 (φ_law_next A) (consA (vr 0) (consA (vr 2) nilA))) (F := D.int) (env0 := [.fz (.own 1), .fz (iT m), .un])
    (fun l ys s => ∃ ns : List Int, ys = ns.map .int ∧ HS s ∧ ∃ m0, m = m0 ++ l ∧ ns.length = m0.length ∧ ∀ j (hj : j < ns.length), 0 ≤ ns[j] ∧ ns[j] < mm m j) (fun a l ys s ⟨ns, h1, h2, m0, h3, h4, h5⟩ => by
      subst h1
      have ha := hp a (by rw [h3]; simp)
      obtain ⟨r, s2, k1, k2, k3, k4⟩ := p_law_next (A := A) h2 (cap := a) (by omega) (by omega)
      refine ⟨_, rfl, .inr ⟨s, .int r, s2, rfl, by simp [k1], rfl, ns ++ [r], by simp, k2, m0 ++ [a], by simp [h3], by simp [h4], fun j hj => ?_⟩⟩
      by_cases hj2 : j < ns.length
      · rw [List.getElem_append_left hj2]; exact h5 j hj2
      · have hje : j = ns.length := by simp at hj; omega
        subst hje
        have : mm m ns.length = a := by
          simp [mm, h3, h4]
        simp [this, k3, k4]) m [] st ⟨[], rfl, H, [], rfl, rfl, fun j hj => by simp at hj⟩
  obtain ⟨m0, h3, h4, h5⟩ := q4
  simp at h3 q2
  subst h3
  refine ⟨fun i => ns.getD i 0, s, ?_, q3, fun j hj => ?_⟩
  · have e3 := tab_ints ns
    rw [h4] at e3
    simp only [List.getD_eq_getElem?_getD] at e3 ⊢
    simp [q1, q2, e3]
  · have := h5 j (by omega)
    simpa [show j < ns.length by omega] using this
theorem p_inner {many one : Nat} {h cap mk x7 x8 x9 x10 x6 : DL.Slot} {c : List (Nat × Nat)} (H : HS st) (hc : c.Pairwise lexP) (hu : ∀ p ∈ c, p.1 < p.2 ∧ p.2 < many) (hb : ∀ p ∈ c, p.1 < one) (hl : c.length ≤ 50 * one) (hm : many ≤ 50) (ho : one < many) (hh : h = .fz (.own 1)) :
    ∃ (c' : List (Nat × Nat)) (x6' : DL.Slot) (st' : Store), forL t2_law_parts (l2_law_parts A) (rngD ((one : Int) + 1) (many - (one + 1))) [h, cap, .fz (.int many), mk, .ol (c.map pD), .fz (.int one), x6, x7, x8, x9, x10] st = .nx [h, cap, .fz (.int many), mk, .ol (c'.map pD), .fz (.int one), x6', x7, x8, x9, x10] st' ∧
      HS st' ∧ c'.Pairwise lexP ∧ (∀ p ∈ c', p.1 < p.2 ∧ p.2 < many) ∧ (∀ p ∈ c', p.1 < one + 1) ∧ c'.length ≤ 50 * (one + 1) := by
  subst hh
  obtain ⟨e, s, q1, q2, c', x', q3, q4, q5, q6, q7⟩ := forL_rng (tg := t2_law_parts) (b := l2_law_parts A) (lo := (one : Int) + 1) (n := many - (one + 1)) (st := st) (env := [.fz (.own 1), cap, .fz (.int many), mk, .ol (c.map pD), .fz (.int one), x6, x7, x8, x9, x10])
    (fun i env s => HS s ∧ ∃ (c' : List (Nat × Nat)) (x' : DL.Slot), env = [.fz (.own 1), cap, .fz (.int many), mk, .ol (c'.map pD), .fz (.int one), x', x7, x8, x9, x10] ∧ c'.Pairwise lexP ∧ (∀ p ∈ c', p.1 < p.2 ∧ p.2 < many) ∧ (∀ p ∈ c', p.1 < one ∨ (p.1 = one ∧ p.2 < one + 1 + i)) ∧ c'.length ≤ 50 * one + i) (fun i env s hi ⟨h2, c', x', he, g1, g2, g3, g4⟩ => by
      subst he
      obtain ⟨r, s2, k1, k2, k3, k4⟩ := p_law_next (A := A) h2 (cap := 3) (by omega) (by omega)
      have ev : (one : Int) + 1 + (i : Int) = ((one + 1 + i : Nat) : Int) := by omega
      by_cases hr : r = 0
      · refine ⟨[.fz (.own 1), cap, .fz (.int many), mk, .ol ((c' ++ [(one, one + 1 + i)]).map pD), .fz (.int one), .fz (.int ((one : Int) + 1 + i)), x7, x8, x9, x10], s2, ?_, k2, _, _, rfl, ?_, ?_, ?_, by simp; omega⟩
        · simp [t2_law_parts, l2_law_parts, k1, hr]
          rw [ev_app2' (xs := c'.map pD) rfl (by simp; omega) rfl]
          simp [pD]
        · refine List.pairwise_append.mpr ⟨g1, by simp, fun a ha b hb => ?_⟩
          have : b = (one, one + 1 + i) := by simpa using hb
          subst this
          rcases g3 a ha with w | ⟨w1, w2⟩
          · exact .inl w
          · exact .inr ⟨w1, w2⟩
        · intro p hp
          rcases List.mem_append.mp hp with hp | hp
          · exact g2 p hp
          · have : p = (one, one + 1 + i) := by simpa using hp
            subst this
            exact ⟨by simp only; omega, by simp only; omega⟩
        · intro p hp
          rcases List.mem_append.mp hp with hp | hp
          · rcases g3 p hp with w | ⟨w1, w2⟩
            · exact .inl w
            · exact .inr ⟨w1, by omega⟩
          · have : p = (one, one + 1 + i) := by simpa using hp
            subst this
            exact .inr ⟨rfl, by simp only; omega⟩
      · refine ⟨[.fz (.own 1), cap, .fz (.int many), mk, .ol (c'.map pD), .fz (.int one), .fz (.int ((one : Int) + 1 + i)), x7, x8, x9, x10], s2, ?_, k2, _, _, rfl, g1, g2, fun p hp => ?_, by omega⟩
        · simp [t2_law_parts, l2_law_parts, k1, hr]
        · rcases g3 p hp with w | ⟨w1, w2⟩
          · exact .inl w
          · exact .inr ⟨w1, by omega⟩) ⟨H, c, x6, rfl, hc, hu, fun p hp => .inl (hb p hp), by omega⟩
  subst q3
  refine ⟨c', x', s, q1, q2, q4, q5, fun p hp => ?_, by omega⟩
  rcases q6 p hp with w | ⟨w1, _⟩ <;> omega

theorem p_carries {many : Nat} {cap mk x5 x6 x7 x8 x9 x10 : DL.Slot} (H : HS st) (hm : many ≤ 50) :
    ∃ (c : List (Nat × Nat)) (y5 y6 : DL.Slot) (st' : Store), forL t1_law_parts (l1_law_parts A) (rngD 0 many) [.fz (.own 1), cap, .fz (.int many), mk, .ol [], x5, x6, x7, x8, x9, x10] st = .nx [.fz (.own 1), cap, .fz (.int many), mk, .ol (c.map pD), y5, y6, x7, x8, x9, x10] st' ∧
      HS st' ∧ c.Pairwise lexP ∧ (∀ p ∈ c, p.1 < p.2 ∧ p.2 < many) ∧ c.length ≤ 2500 := by
  obtain ⟨e, s, q1, q2, c', x', y', q3, q4, q5, q6, q7⟩ := forL_rng (tg := t1_law_parts) (b := l1_law_parts A) (lo := 0) (n := many) (st := st) (env := [.fz (.own 1), cap, .fz (.int many), mk, .ol [], x5, x6, x7, x8, x9, x10])
    (fun i env s => HS s ∧ ∃ (c' : List (Nat × Nat)) (x' y' : DL.Slot), env = [.fz (.own 1), cap, .fz (.int many), mk, .ol (c'.map pD), x', y', x7, x8, x9, x10] ∧ c'.Pairwise lexP ∧ (∀ p ∈ c', p.1 < p.2 ∧ p.2 < many) ∧ (∀ p ∈ c', p.1 < i) ∧ c'.length ≤ 50 * i) (fun i env s hi ⟨h2, c', x', y', he, g1, g2, g3, g4⟩ => by
      subst he
      obtain ⟨c2, z6, s2, k1, k2, k3, k4, k5, k6⟩ := p_inner (A := A) h2 g1 g2 g3 g4 hm hi rfl (x6 := y') (cap := cap) (mk := mk) (x7 := x7) (x8 := x8) (x9 := x9) (x10 := x10)
      refine ⟨_, s2, ?_, k2, c2, .fz (.int i), z6, rfl, k3, k4, k5, k6⟩
      have r1 : rngOk ((i : Int) + 1) = true := rng_ok (by omega) (by omega)
      have r2 : rngOk (many : Int) = true := rng_ok (by omega) (by omega)
      have e1 : ((many : Int) - ((i : Int) + 1)).toNat = many - (i + 1) := by omega
      simp [t1_law_parts, l1_law_parts, r1, r2, e1]
      exact k1) ⟨H, [], x5, x6, rfl, List.Pairwise.nil, by simp, by simp, by simp⟩
  subst q3
  exact ⟨c', x', y', s, q1, q2, q4, q5, by omega⟩
theorem filt_range {many : Nat} {p : Nat → Bool} : ((List.range many).filter p).Pairwise (· < ·) ∧ ∀ w ∈ (List.range many).filter p, w < many :=
  ⟨List.Pairwise.filter _ List.pairwise_lt_range, fun w hw => List.mem_range.mp (List.mem_filter.mp hw).1⟩
/-- a lever is drawn -/
theorem p_lever {many : Nat} {x1 x3 x4 x7 x8 x5 x6 x9 x10 : DL.Slot} (H : HS st) (hm : many ≤ 50) :
    ∃ (l : List Nat) (st' : Store), lcL (nmN 10) (tst (bin oEq (app 2 (φ_law_next A) (consA (vr 0) (consA (cst (.int 2)) nilA))) (cst (.int 0)))) (vr 10) [.fz (.own 1), x1, .fz (.int many), x3, x4, x5, x6, x7, x8, x9, x10] (rngD 0 many) st = .ok (l.map wI) st' ∧ HS st' ∧ l.Pairwise (· < ·) ∧ ∀ w ∈ l, w < many := by
  obtain ⟨zs, s, q1, l, q2, q3, q4, q5⟩ := lcL_inv (g := nmN 10) (t := tst (bin oEq (app 2 (φ_law_next A) (consA (vr 0) (consA (cst (.int 2)) nilA))) (cst (.int 0)))) (el := vr 10) (F := fun (i : Nat) => D.int (0 + (i : Int))) (env0 := [.fz (.own 1), x1, .fz (.int many), x3, x4, x5, x6, x7, x8, x9, x10])
    (fun r ys s => ∃ l : List Nat, ys = l.map wI ∧ HS s ∧ (l ++ r).Pairwise (· < ·) ∧ ∀ w ∈ l ++ r, w < many) (fun a r ys s ⟨l, h1, h2, h3, h4⟩ => by
      subst h1
      obtain ⟨z, s2, k1, k2, k3, k4⟩ := p_law_next (A := A) h2 (cap := 2) (by omega) (by omega)
      by_cases hz : z = 0
      · refine ⟨_, rfl, .inr ⟨s2, wI a, s2, by simp [k1, hz], by simp [wI], rfl, l ++ [a], by simp, k2, by simpa using h3, by simpa using h4⟩⟩
      · refine ⟨_, rfl, .inl ⟨s2, by simp [k1, hz], l, rfl, k2, ?_, fun w hw => h4 w (by simp at hw ⊢; rcases hw with w | w <;> simp [w])⟩⟩
        have := List.pairwise_append.mp h3
        exact List.pairwise_append.mpr ⟨this.1, (List.pairwise_cons.mp this.2.1).2, fun x hx y hy => this.2.2 x hx y (List.mem_cons_of_mem _ hy)⟩) (List.range many) [] st ⟨[], rfl, H, by simpa using List.pairwise_lt_range, by simp⟩
  simp at q2 q4 q5
  subst q2
  exact ⟨l, s, q1, q3, q4, q5⟩
theorem p_levers {many n : Nat} {x1 x3 x4 x5 x6 x8 x9 : DL.Slot} (H : HS st) (h1 : 1 ≤ many) (hm : many ≤ 50) (hn : n ≤ 50) :
    ∃ (l : List (List Nat)) (y8 y9 : DL.Slot) (st' : Store), forL t3_law_parts (l3_law_parts A) (rngD 0 n) [.fz (.own 1), x1, .fz (.int many), x3, x4, x5, x6, .ol [], x8, x9, .un] st = .nx [.fz (.own 1), x1, .fz (.int many), x3, x4, x5, x6, .ol (l.map wD), y8, y9, .un] st' ∧
      HS st' ∧ l.length = n ∧ ∀ v ∈ l, v ≠ [] ∧ v.Pairwise (· < ·) ∧ ∀ w ∈ v, w < many := by
  obtain ⟨e, s, q1, q2, l, x', y', q3, q4, q5⟩ := forL_rng (tg := t3_law_parts) (b := l3_law_parts A) (lo := 0) (n := n) (st := st) (env := [.fz (.own 1), x1, .fz (.int many), x3, x4, x5, x6, .ol [], x8, x9, .un])
    (fun i env s => HS s ∧ ∃ (l : List (List Nat)) (x' y' : DL.Slot), env = [.fz (.own 1), x1, .fz (.int many), x3, x4, x5, x6, .ol (l.map wD), x', y', .un] ∧ l.length = i ∧ ∀ v ∈ l, v ≠ [] ∧ v.Pairwise (· < ·) ∧ ∀ w ∈ v, w < many) (fun i env s hi ⟨h2, l, x', y', he, g1, g2⟩ => by
      subst he
      obtain ⟨v, s2, k1, k2, k3, k4⟩ := p_lever (A := A) h2 hm (x1 := x1) (x3 := x3) (x4 := x4) (x5 := x5) (x6 := x6) (x7 := .ol (l.map wD)) (x8 := .fz (.int i)) (x9 := y') (x10 := .un)
      have r1 : rngOk (many : Int) = true := rng_ok (by omega) (by omega)
      have hw : v.map wI = (v.map fun w : Nat => (w : Int)).map D.int := by simp [wI]
      have hvl : v.length ≤ 50 := Nat.le_trans (sorted_le k3 k4) hm
      have hne : ∀ env : DL.Env, oNe env s2 (.tup (v.map wI)) (.tup []) = .ok (.bl (!decide (v = []))) s2 := fun env => by
        have := ne_ints (env := env) (st := s2) (ns := v.map fun w : Nat => (w : Int)) (ms := []) (by simp; omega) (by simp)
        rw [hw]; simpa using this
      have hsl : noSl (v.map wI) = true := noSl_map (fun _ => rfl) _
      have hlc : lc1 (nmN 10, tst (bin oEq (app 2 (φ_law_next A) (consA (vr 0) (consA (cst (.int 2)) nilA))) (cst (.int 0))), vr 10, [10], [.fz (.own 1), x1, .fz (.int many), x3, x4, x5, x6, .ol (l.map wD), .fz (.int i), y', .un]) (rngD 0 many) s = .ok (v.map wI) s2 := by
        rw [ev_lc1 (by simp [rngD]; omega) (by simp), wipeE_cons, wipeE_nil]
        exact k1
      have hlen : (l.map wD).length < 100000 := by simp; omega
      have happ : ∀ (u : List Nat) (env : DL.Env), env[7]? = some (.ol (l.map wD)) → ∀ s, app2 (.sl 7, env) (.tup (u.map wI)) s = .nx (env.set 7 (.ol ((l ++ [u]).map wD))) s := fun u env he s => by
        rw [ev_app2' rfl hlen he]
        simp [wD]
      by_cases hv : v = []
      · obtain ⟨r, s3, m1, m2, m3, m4⟩ := p_law_next (A := A) k2 (cap := (many : Int)) (by omega) (by omega)
        refine ⟨[.fz (.own 1), x1, .fz (.int many), x3, x4, x5, x6, .ol ((l ++ [[r.toNat]]).map wD), .fz (.int i), .fz (.tup (v.map wI)), .un], s3, ?_, m2, _, _, _, rfl, by simp; omega, fun u hu => ?_⟩
        · have hre : ((r.toNat : Nat) : Int) = r := by omega
          have ha := happ [r.toNat] [.fz (.own 1), x1, .fz (.int many), x3, x4, x5, x6, .ol (l.map wD), .fz (.int i), .fz (.tup []), .un] rfl s3
          simp [wI, hre] at ha
          simp only [hv, List.map_nil] at hne hlc hsl
          simp [t3_law_parts, l3_law_parts, r1, hlc, hsl, hne, hv, m1, ha, wI, hre]
        · rcases List.mem_append.mp hu with hu | hu
          · exact g2 u hu
          · have : u = [r.toNat] := by simpa using hu
            subst this
            exact ⟨by simp, by simp, by simp; omega⟩
      · refine ⟨[.fz (.own 1), x1, .fz (.int many), x3, x4, x5, x6, .ol ((l ++ [v]).map wD), .fz (.int i), .fz (.tup (v.map wI)), .un], s2, ?_, k2, _, _, _, rfl, by simp; omega, fun u hu => ?_⟩
        · have ha := happ v [.fz (.own 1), x1, .fz (.int many), x3, x4, x5, x6, .ol (l.map wD), .fz (.int i), .fz (.tup (v.map wI)), .un] rfl s2
          simp at ha
          simp [t3_law_parts, l3_law_parts, r1, hlc, hsl, hne, hv, ha]
        · rcases List.mem_append.mp hu with hu | hu
          · exact g2 u hu
          · have : u = v := by simpa using hu
            subst this
            exact ⟨hv, k3, k4⟩) ⟨H, [], x8, x9, rfl, rfl, by simp⟩
  subst q3
  exact ⟨l, x', y', s, q1, q2, q4, q5⟩
theorem p_law_parts (H : HS st) {cap : Int} (h1 : 1 ≤ cap) (h2 : cap ≤ 59) : ∃ m c l st', φ_law_parts A [.own 1, .int cap] st = .ok (partsD m c l) st' ∧ HS st' ∧ PartsOk m c l := by
  obtain ⟨r, s1, a1, a2, a3, a4⟩ := p_law_next (A := A) H (cap := 4) (by omega) (by omega)
  obtain ⟨many, hmany⟩ : ∃ many : Nat, 1 + r = (many : Int) := ⟨(1 + r).toNat, by omega⟩
  have hm1 : 1 ≤ many := by omega
  have hm4 : many ≤ 4 := by omega
  have rm : rngOk (many : Int) = true := rng_ok (by omega) (by omega)
  -- marks
  have hmarks : ∃ (m : List Int) (s2 : Store), lcL (nmN 8) yesT (bin oAdd (cst (.int 2)) (app 2 (φ_law_next A) (consA (vr 0) (consA (app 2 (φ_law_pick A) (consA (vr 0) (consA (frz (lstN (consA (cst (.int 3)) (consA (vr 1) nilA)))) nilA))) nilA)))) [.fz (.own 1), .fz (.int cap), .fz (.int many), .un, .un, .un, .un, .un, .un, .un, .un] (rngD 0 many) s1 = .ok (m.map .int) s2 ∧ HS s2 ∧ m.length = many ∧ ∀ x ∈ m, 2 ≤ x ∧ x ≤ 60 := by
    obtain ⟨zs, s, q1, l, q2, q3, q4, q5⟩ := lcL_inv (g := nmN 8) (t := yesT) (el := (bin oAdd (cst (.int 2)) (app 2 (φ_law_next A) (consA (vr 0) (consA (app 2 (φ_law_pick A) (consA (vr 0) (consA (frz (lstN (consA (cst (.int 3)) (consA (vr 1) nilA)))) nilA))) nilA))))) (F := fun (i : Nat) => D.int (0 + (i : Int))) (env0 := [.fz (.own 1), .fz (.int cap), .fz (.int many), .un, .un, .un, .un, .un, .un, .un, .un])
      (fun r ys s => ∃ l : List Int, ys = l.map .int ∧ HS s ∧ l.length + r.length = many ∧ ∀ x ∈ l, 2 ≤ x ∧ x ≤ 60) (fun a r ys s ⟨l, h1', h2', h3', h4'⟩ => by
        subst h1'
        obtain ⟨k, hk, s2, b1, b2⟩ := p_law_pick (A := A) h2' (xs := [.int 3, .int cap]) (by simp) (by simp) (by simp)
        obtain ⟨cp, hcp, hcp1, hcp2⟩ : ∃ cp : Int, [D.int 3, D.int cap][k] = .int cp ∧ 1 ≤ cp ∧ cp ≤ 59 := by
          match k, hk with
          | 0, _ => exact ⟨3, rfl, by omega, by omega⟩
          | 1, _ => exact ⟨cap, rfl, h1, h2⟩
        rw [hcp] at b1
        obtain ⟨z, s3, k1, k2, k3, k4⟩ := p_law_next (A := A) b2 (cap := cp) hcp1 (by omega)
        refine ⟨_, rfl, .inr ⟨s, .int (2 + z), s3, rfl, by simp [b1, k1], rfl, l ++ [2 + z], by simp, k2, by simp at h3' ⊢; omega, fun x hx => ?_⟩⟩
        rcases List.mem_append.mp hx with hx | hx
        · exact h4' x hx
        · have : x = 2 + z := by simpa using hx
          omega) (List.range many) [] s1 ⟨[], rfl, a2, by simp, by simp⟩
    simp at q2 q4
    subst q2
    exact ⟨l, s, q1, q3, q4, q5⟩
  obtain ⟨m, s2, b1, b2, b3, b4⟩ := hmarks
  have hlc : lc1 (nmN 8, yesT, (bin oAdd (cst (.int 2)) (app 2 (φ_law_next A) (consA (vr 0) (consA (app 2 (φ_law_pick A) (consA (vr 0) (consA (frz (lstN (consA (cst (.int 3)) (consA (vr 1) nilA)))) nilA))) nilA)))), [8], [.fz (.own 1), .fz (.int cap), .fz (.int many), .un, .un, .un, .un, .un, .un, .un, .un]) (rngD 0 many) s1 = .ok (m.map .int) s2 := by
    rw [ev_lc1 (by simp [rngD]; omega) (by simp), wipeE_cons, wipeE_nil]
    exact b1
  obtain ⟨c, y5, y6, s3, c1, c2, c3, c4, c5⟩ := p_carries (A := A) b2 (many := many) (cap := .fz (.int cap)) (mk := .fz (.tup (m.map .int))) (x5 := .un) (x6 := .un) (x7 := .un) (x8 := .un) (x9 := .un) (x10 := .un) (by omega)
  obtain ⟨z, s4, d1, d2, d3, d4⟩ := p_law_next (A := A) c2 (cap := 3) (by omega) (by omega)
  obtain ⟨n, hn⟩ : ∃ n : Nat, 1 + z = (n : Int) := ⟨(1 + z).toNat, by omega⟩
  have rn : rngOk (n : Int) = true := rng_ok (by omega) (by omega)
  obtain ⟨l, y8, y9, s5, e1, e2, e3, e4⟩ := p_levers (A := A) d2 (many := many) (n := n) (x1 := .fz (.int cap)) (x3 := .fz (.tup (m.map .int))) (x4 := .ol (c.map pD)) (x5 := y5) (x6 := y6) (x8 := .un) (x9 := .un) hm1 (by omega) (by omega)
  refine ⟨m, c, l, s5, ?_, e2, ⟨by omega, by omega, ⟨b4, fun p hp => b3 ▸ c4 p hp⟩, c3, ⟨by omega, by omega, fun v hv => (e4 v hv).1, fun v hv => (e4 v hv).2.1, fun v hv => b3 ▸ (e4 v hv).2.2⟩⟩⟩
  have n1 : noSl (c.map pD) = true := noSl_map (fun _ => rfl) _
  have n2 : noSl (l.map wD) = true := noSl_map (fun _ => rfl) _
  simp [φ_law_parts, b_law_parts, a1, hmany, rm, hlc, c1, d1, hn, rn, e1, n1, n2, partsD, iT, cD, lD]
end HW
namespace HW
open PySem PySem.Spec PyProof.Rows L2 DL
variable {A : Cl} {st : Store}
theorem p_more {m : List Int} {c : List (Nat × Nat)} (G : Good m c) {w : Nat} (hw : w < m.length) {v : Int} {f : Nat → Int} {x0 x1 x2 x3 x6 x7 a11 a12 : DL.Slot} :
    ∃ (b11 b12 : DL.Slot), forL t2_law_turned (l2_law_turned A) (c.map pD) [x0, x1, x2, x3, .fz (iT m), .fz (cD c), x6, x7, .ol (tab m.length f), .fz (.int w), .fz (.int v), a11, a12] st =
      .nx [x0, x1, x2, x3, .fz (iT m), .fz (cD c), x6, x7, .ol (tab m.length fun j => f j + sm c (dl w (v.fdiv (mm m w))) j), .fz (.int w), .fz (.int v), b11, b12] st := by
  have hm := G.mm hw
  have hd := div_ok hm.1 hm.2
  obtain ⟨e, s, q1, q2⟩ := forL_at (F := pD) (tg := t2_law_turned) (b := l2_law_turned A) (as := c) (st := st) (env := [x0, x1, x2, x3, .fz (iT m), .fz (cD c), x6, x7, .ol (tab m.length f), .fz (.int w), .fz (.int v), a11, a12])
    (fun k env s => s = st ∧ ∃ x y, env = [x0, x1, x2, x3, .fz (iT m), .fz (cD c), x6, x7, .ol (tab m.length fun j => f j + sm (c.take k) (dl w (v.fdiv (mm m w))) j), .fz (.int w), .fz (.int v), x, y]) (fun k hk env s ⟨hs, x, y, he⟩ => by
      subst hs he
      have hu := G.up _ (List.getElem_mem hk)
      have hat : atD (m.map .int) (w : Int) = some (.int (mm m w)) := by rw [at_map (F := D.int) hw, getD_mm hw]
      refine ⟨_, s, ?_, rfl, .fz (.int c[k].1), .fz (.int c[k].2), rfl⟩
      by_cases hcw : c[k].1 = w
      · simp [t2_law_turned, l2_law_turned, pD, hcw, at_tab hu.2, set_tab hu.2, iT, hat, hd]
        apply tab_congr
        intro i hi
        rw [sm_take hk]
        simp only [upF, dl, hcw, if_true]
        by_cases hi2 : i = c[k].2
        · subst hi2; simp; omega
        · have hi3 : ¬ c[k].2 = i := fun e => hi2 e.symm
          simp [hi2, hi3]
      · have hw' : ¬ (c[k].1 : Int) = (w : Int) := by omega
        simp [t2_law_turned, l2_law_turned, pD, hw']
        apply tab_congr
        intro i hi
        rw [sm_take hk]
        simp [dl, hcw]) ⟨rfl, a11, a12, by
          have : tab m.length (fun j => f j + sm (c.take 0) (dl w (v.fdiv (mm m w))) j) = tab m.length f := tab_congr fun i _ => by simp [sm]
          rw [this]⟩
  obtain ⟨rfl, x, y, rfl⟩ := q2
  rw [List.take_length] at q1
  exact ⟨x, y, q1⟩
theorem tab_snoc {n : Nat} {f : Nat → Int} : tab n f ++ [.int (f n)] = tab (n + 1) f := by simp [tab, List.range_succ]
theorem p_law_turned {m : List Int} {c : List (Nat × Nat)} {l : List (List Nat)} (G : Good m c) (h4 : m.length ≤ 1000) {x : Nat → Int} {lv : List Nat} {t : Int} :
    ∃ y, φ_law_turned A [partsD m c l, .tup (tab m.length x), wD lv, .int t] st = .ok (.tup (tab m.length y)) st ∧ Red m y ∧ Cong m c (fun i => x i + mv lv t i) y := by
  obtain ⟨e, s, q1, q2⟩ := forL_rng (tg := t1_law_turned) (b := l1_law_turned A) (lo := 0) (n := m.length) (st := st) (env := [.fz (partsD m c l), .fz (.tup (tab m.length x)), .fz (wD lv), .fz (.int t), .fz (iT m), .fz (cD c), .fz (lD l), .ol [], .ol (tab m.length fun _ => 0), .un, .un, .un, .un])
    (fun w env s => s = st ∧ ∃ y g K a9 a10 a11 a12, env = [.fz (partsD m c l), .fz (.tup (tab m.length x)), .fz (wD lv), .fz (.int t), .fz (iT m), .fz (cD c), .fz (lD l), .ol (tab w y), .ol (tab m.length g), a9, a10, a11, a12] ∧ (∀ j, j < m.length → g j = sm c K j) ∧ (∀ i, w ≤ i → K i = 0) ∧ ∀ j, j < w → 0 ≤ y j ∧ y j < mm m j ∧ y j = x j + mv lv t j - mm m j * K j + g j)
    (fun w env s hw ⟨hs, y, g, K, a9, a10, a11, a12, he, hg, hz, hy⟩ => by
      subst hs he
      have hm := G.mm hw
      have hne : mm m w ≠ 0 := by omega
      have hat : atD (m.map .int) (w : Int) = some (.int (mm m w)) := by rw [at_map (F := D.int) hw, getD_mm hw]
      have htm : (if w ∈ lv then t else 0) = mv lv t w := rfl
      obtain ⟨b11, b12, q⟩ := p_more (A := A) (st := s) G hw (v := x w + g w + mv lv t w) (f := g) (x0 := .fz (partsD m c l)) (x1 := .fz (.tup (tab m.length x))) (x2 := .fz (wD lv)) (x3 := .fz (.int t)) (x6 := .fz (lD l)) (x7 := .ol (tab (w + 1) (upF y w ((x w + g w + mv lv t w).fmod (mm m w))))) (a11 := a11) (a12 := a12)
      have hy1 : tab w y ++ [.int ((x w + g w + mv lv t w).fmod (mm m w))] = tab (w + 1) (upF y w ((x w + g w + mv lv t w).fmod (mm m w))) := by
        rw [← tab_snoc]
        have e1 : tab w (upF y w ((x w + g w + mv lv t w).fmod (mm m w))) = tab w y := tab_congr fun i hi => by simp [upF]; omega
        rw [e1]; simp [upF]
      have happ : ∀ (env : DL.Env), env[7]? = some (.ol (tab w y)) → ∀ s, app2 (.sl 7, env) (.int ((x w + g w + mv lv t w).fmod (mm m w))) s = .nx (env.set 7 (.ol (tab (w + 1) (upF y w ((x w + g w + mv lv t w).fmod (mm m w)))))) s := fun env he s => by
        rw [ev_app2' rfl (by simp; omega) he, hy1]
      refine ⟨_, s, ?_, rfl, upF y w ((x w + g w + mv lv t w).fmod (mm m w)), fun j => g j + sm c (dl w ((x w + g w + mv lv t w).fdiv (mm m w))) j, fun i => K i + dl w ((x w + g w + mv lv t w).fdiv (mm m w)) i, .fz (.int w), .fz (.int (x w + g w + mv lv t w)), b11, b12, rfl, ?_, ?_, ?_⟩
      · have ha := happ [.fz (partsD m c l), .fz (.tup (tab m.length x)), .fz (wD lv), .fz (.int t), .fz (iT m), .fz (cD c), .fz (lD l), .ol (tab w y), .ol (tab m.length g), .fz (.int w), .fz (.int (x w + g w + mv lv t w)), a11, a12] rfl s
        simp [iT, cD] at ha q
        by_cases hin : w ∈ lv
        · have hmv : mv lv t w = t := by simp [mv, hin]
          rw [hmv] at ha q ⊢
          simp [t1_law_turned, l1_law_turned, at_tab hw, in_lever, hin, iT, cD, hat, hne, ha, q]
        · have hmv : mv lv t w = 0 := by simp [mv, hin]
          rw [hmv] at ha q ⊢
          simp at ha q
          simp [t1_law_turned, l1_law_turned, at_tab hw, in_lever, hin, iT, cD, hat, hne, ha, q]
      · intro j hj
        simp only
        rw [sm_add, hg j hj]
      · intro i hi
        have h0 := hz i (by omega)
        have : ¬ i = w := by omega
        simp [dl, this, h0]
      · intro j hj
        have hs0 : sm c (dl w ((x w + g w + mv lv t w).fdiv (mm m w))) j = 0 := sm_zero fun p hp hpj => by
          have := G.up p hp
          simp only [dl]
          rw [if_neg (by omega)]
        simp only [hs0, upF]
        by_cases hjw : j = w
        · subst hjw
          have h0 := hz j (Nat.le_refl _)
          have h1 := Int.emod_nonneg (x j + g j + mv lv t j) hne
          have h2 := Int.emod_lt_of_pos (x j + g j + mv lv t j) (show 0 < mm m j by omega)
          rw [← Int.fmod_eq_emod_of_nonneg _ (show 0 ≤ mm m j by omega)] at h1 h2
          have h3 := Int.mul_fdiv_add_fmod (x j + g j + mv lv t j) (mm m j)
          simp [dl, h0]
          omega
        · have h0 := hy j (by omega)
          simp [hjw, dl]
          omega) ⟨rfl, fun _ => 0, fun _ => 0, fun _ => 0, _, _, _, _, rfl, fun j _ => by rw [sm_zero fun _ _ _ => rfl], fun _ _ => rfl, fun j hj => by omega⟩
  obtain ⟨rfl, y, g, K, a9, a10, a11, a12, rfl, hg, _, hy⟩ := q2
  refine ⟨y, ?_, fun j hj => ⟨(hy j hj).1, (hy j hj).2.1⟩, K, fun j hj => by rw [(hy j hj).2.2, hg j hj]⟩
  have r1 : rngOk (m.length : Int) = true := rng_nat (by omega)
  have er : oRepN [.fz (partsD m c l), .fz (.tup (tab m.length x)), .fz (wD lv), .fz (.int t), .fz (iT m), .fz (cD c), .fz (lD l), .un, .un, .un, .un, .un, .un] s (.lst [.int 0]) (.int m.length) = .ok (tab m.length fun _ => 0) s := by
    rw [ev_repN (by omega), tab_zero]
  simp [partsD, iT, lD, cD] at q1 er
  simp [φ_law_turned, b_law_turned, partsD, iT, lD, cD, er, r1, q1]
end HW
namespace HW
open PySem PySem.Spec PyProof.Rows L2 DL
variable {A : Cl} {st : Store}
theorem lcL_filter {α : Type} {g : FGn} {t : FT} {el : FE} {F G : α → D} {P : α → Bool} {env0 : DL.Env} : ∀ (as : List α), (∀ a ∈ as, ∃ e, g (F a) env0 = some e ∧ t e st = .ok (P a) st ∧ el e st = .ok (G a) st ∧ (G a).isSl = false) → lcL g t el env0 (as.map F) st = .ok ((as.filter P).map G) st
  | [], _ => rfl
  | a :: r, h => by
    obtain ⟨e, h1, h2, h3, h4⟩ := h a List.mem_cons_self
    have ih := lcL_filter (P := P) (G := G) (F := F) (g := g) (t := t) (el := el) (env0 := env0) r fun x hx => h x (List.mem_cons_of_mem _ hx)
    rw [List.map_cons, lcL, h1]
    simp only
    rw [h2]
    cases hp : P a
    · simp only [noE, Res.bind, Bool.false_eq_true, if_false]
      rw [ih]
      simp [hp]
    · simp only [noE, Res.bind, if_true]
      rw [h3]
      simp only [h4, Bool.false_eq_true, if_false]
      rw [ih]
      simp [hp]
theorem ne_lnil {env : DL.Env} {i : Nat} {ws : List Nat} (h : env[i]? = some (.ol (ws.map wI))) (hl : ws.length ≤ 100000) : oNe env st (.sl i) (.lst []) = .ok (.bl (!decide (ws = []))) st := by
  have e1 : ws.map wI = (ws.map fun w : Nat => (w : Int)).map D.int := by simp [wI]
  have h1 : pyT env st (.sl i) = some (.list ((ws.map fun w : Nat => (w : Int)).map PyData.int)) := by
    unfold pyT
    simp only [ev_seqL_sl, h, sqK_ol]
    rw [e1, pyL_ints]
    rfl
  have h2 : pyT env st (.lst []) = some (.list []) := rfl
  obtain ⟨p, k1, k2, k3⟩ := pyT_plain (env := env) (st := st) (n := 1) (d := .lst ((ws.map fun w : Nat => (w : Int)).map .int)) (by rw [plain_lst, plainL_ints]; simpa using hl) (by omega)
  have e2 : p = .list ((ws.map fun w : Nat => (w : Int)).map PyData.int) := by
    have : pyT env st (.lst ((ws.map fun w : Nat => (w : Int)).map .int)) = some (.list ((ws.map fun w : Nat => (w : Int)).map PyData.int)) := by
      unfold pyT
      rw [seqL_lst]
      simp only [pyL_ints]
      rfl
    rw [this] at k1; exact (Option.some.inj k1).symm
  subst e2
  have h3 : SeqAt.shaped (.list []) = true := by decide +kernel
  unfold oNe cmpD
  rw [h1, h2]
  simp only [k2, h3, and_self, if_true]
  cases ws with
  | nil => simp [PyData.eqv, PyData.eqvAll]
  | cons a r => simp [PyData.eqv, PyData.eqvAll]
/-! one step of a wheel -/
def vec (ws : List Nat) : Nat → Int := fun j => (ws.count j : Int)
def wt (n b : Nat) (ws : List Nat) : Nat := (ws.map fun w => b ^ (n - w)).sum
def kids (c : List (Nat × Nat)) (w : Nat) : List Nat := (c.filter fun p => decide (p.1 = w)).map (·.2)
theorem vec_kids (c : List (Nat × Nat)) (w j : Nat) : vec (kids c w) j = sm c (dl w 1) j := by
  induction c with
  | nil => rfl
  | cons p r ih =>
    rw [sm_cons, ← ih]
    unfold kids vec
    by_cases h1 : p.1 = w
    · by_cases h2 : p.2 = j
      · simp [h1, h2, dl, List.count_cons]; omega
      · simp [h1, h2, dl, List.count_cons]
    · simp [h1, dl]
theorem wt_kids {m : List Int} {c : List (Nat × Nat)} (G : Good m c) {w : Nat} (hw : w < m.length) {b : Nat} (hb : c.length < b) : wt m.length b (kids c w) < b ^ (m.length - w) := by
  have h1 : ∀ ks : List Nat, (∀ k ∈ ks, w < k) → wt m.length b ks ≤ ks.length * b ^ (m.length - w - 1) := by
    intro ks
    induction ks with
    | nil => intro _; simp [wt]
    | cons k r ih =>
      intro h
      have i1 := ih fun k hk => h k (List.mem_cons_of_mem _ hk)
      have i2 := h k List.mem_cons_self
      have i3 : b ^ (m.length - k) ≤ b ^ (m.length - w - 1) := Nat.pow_le_pow_right (by omega) (by omega)
      unfold wt at *
      simp only [List.map_cons, List.sum_cons, List.length_cons]
      rw [Nat.add_mul]
      omega
  have h2 := h1 (kids c w) fun k hk => by
    unfold kids at hk
    obtain ⟨p, hp, rfl⟩ := List.mem_map.mp hk
    have hp2 := List.mem_filter.mp hp
    have := G.up p hp2.1
    have : p.1 = w := by simpa using hp2.2
    omega
  have h3 : (kids c w).length ≤ c.length := by unfold kids; rw [List.length_map]; exact List.length_filter_le _ _
  have h4 : 0 < b ^ (m.length - w - 1) := Nat.pow_pos (by omega)
  have h5 : b ^ (m.length - w) = b * b ^ (m.length - w - 1) := by
    conv => lhs; rw [show m.length - w = (m.length - w - 1) + 1 by omega, Nat.pow_succ]
    rw [Nat.mul_comm]
  have h6 : (kids c w).length * b ^ (m.length - w - 1) ≤ c.length * b ^ (m.length - w - 1) := Nat.mul_le_mul_right _ h3
  have h7 : c.length * b ^ (m.length - w - 1) < b * b ^ (m.length - w - 1) := Nat.mul_lt_mul_of_pos_right hb h4
  omega
theorem wt_app (n b : Nat) (xs ys : List Nat) : wt n b (xs ++ ys) = wt n b xs + wt n b ys := by simp [wt]
theorem wt_len {n b : Nat} (hb : 0 < b) : ∀ ws : List Nat, ws.length ≤ wt n b ws
  | [] => Nat.zero_le _
  | w :: r => by
    have h1 := wt_len (n := n) hb r
    have h2 : 0 < b ^ (n - w) := Nat.pow_pos hb
    unfold wt at *
    simp only [List.map_cons, List.sum_cons, List.length_cons]
    omega
theorem int_nat {a b : Nat} : ((a : Int) = (b : Int)) ↔ a = b := by omega
theorem p_law_once {m : List Int} {c : List (Nat × Nat)} {l : List (List Nat)} (G : Good m c) (h4 : m.length ≤ 1000) {x : Nat → Int} (hr : Red m x) {w : Nat} (hw : w < m.length) (hB : (c.length + 1) ^ m.length ≤ 90000) (hc : c.length ≤ 100) :
    ∃ y, φ_law_once A [partsD m c l, .tup (tab m.length x), .int w] st = .ok (.tup (tab m.length y)) st ∧ Red m y ∧ Cong m c (fun j => x j + vec [w] j) y := by
  have hb : 0 < c.length + 1 := by omega
  have hlst : ∀ env : DL.Env, oList env st [.tup (tab m.length x)] = .ok (tab m.length x) st := fun _ => rfl
  obtain ⟨e, s, s0, q1, ⟨hs, f, ws, a5, he, hf, hcg, hws, hwt, _⟩, q3⟩ := whileS_inv (test := t1_law_once A) (b := l1_law_once A)
    (fun k env s => s = st ∧ ∃ (f : Nat → Int) (ws : List Nat) (a5 : DL.Slot), env = [.fz (partsD m c l), .fz (.tup (tab m.length x)), .fz (.int w), .ol (tab m.length f), .ol (ws.map wI), a5, .un, .un] ∧ Red m f ∧ Cong m c (fun j => x j + vec [w] j) (fun j => f j + vec ws j) ∧ (∀ v ∈ ws, v < m.length) ∧ wt m.length (c.length + 1) ws = k ∧ k ≤ 90000)
    (fun k env s ⟨hs, f, ws, a5, he, hf, hcg, hws, hwt, hk⟩ => by
      subst hs he
      have hlen : ws.length ≤ 90000 := Nat.le_trans (wt_len (n := m.length) hb ws) (by omega)
      have htest : t1_law_once A [.fz (partsD m c l), .fz (.tup (tab m.length x)), .fz (.int w), .ol (tab m.length f), .ol (ws.map wI), a5, .un, .un] s = .ok (!decide (ws = [])) s := by
        have := ne_lnil (st := s) (env := [.fz (partsD m c l), .fz (.tup (tab m.length x)), .fz (.int w), .ol (tab m.length f), .ol (ws.map wI), a5, .un, .un]) (i := 4) (ws := ws) rfl (by omega)
        simp only [t1_law_once, ev_tst, ev_bin, ev_vr, ev_frz, ev_lstN, ev_nilA, go_ok, ev_lst1_0, ev_frz1, ev_bin1]
        simp [this]
      by_cases h0 : ws = []
      · refine .inl ⟨s, by rw [htest]; simp [h0], rfl, f, ws, a5, rfl, hf, hcg, hws, by rw [h0]; rfl, by omega⟩
      · obtain ⟨pre, v, rfl⟩ : ∃ pre v, ws = pre ++ [v] := ⟨ws.dropLast, ws.getLast h0, (List.dropLast_concat_getLast h0).symm⟩
        have hv := hws v (by simp)
        have hm := G.mm hv
        have hfv := hf v hv
        have hmap : (pre ++ [v]).map wI = pre.map wI ++ [wI v] := by simp
        have hpop := ev_pop1 (i := 5) (st := s) (env := [.fz (partsD m c l), .fz (.tup (tab m.length x)), .fz (.int w), .ol (tab m.length f), .ol (pre.map wI ++ [wI v]), a5, .un, .un]) (j := 4) (xs := pre.map wI) (d := wI v) rfl
        simp [wI, partsD, iT, cD, lD] at hpop
        have hat : atD (m.map .int) (v : Int) = some (.int (mm m v)) := by rw [at_map (F := D.int) hv, getD_mm hv]
        have hwpre : wt m.length (c.length + 1) (pre ++ [v]) = wt m.length (c.length + 1) pre + (c.length + 1) ^ (m.length - v) := by rw [wt_app]; simp [wt]
        have hpos : 0 < (c.length + 1) ^ (m.length - v) := Nat.pow_pos hb
        rw [hwpre] at hwt
        by_cases hfull : f v + 1 = mm m v
        · have hkl : (kids c v).length ≤ 100 := Nat.le_trans (by unfold kids; rw [List.length_map]; exact List.length_filter_le _ _) hc
          have hpl : pre.length ≤ 90000 := Nat.le_trans (wt_len (n := m.length) hb pre) (by omega)
          refine .inr ⟨s, [.fz (partsD m c l), .fz (.tup (tab m.length x)), .fz (.int w), .ol (tab m.length (upF (upF f v (f v + 1)) v 0)), .ol ((pre ++ kids c v).map wI), .fz (.int v), .un, .un], s, wt m.length (c.length + 1) (pre ++ kids c v), ?_, ?_, ?_, rfl, _, _, _, rfl, ?_, ?_, ?_, rfl, ?_⟩
          · rw [htest]; simp
          · have hlc : lc1 (tupN 2 (consN (nmN 6) (consN (nmN 7) nilN)), tst (bin oEq (vr 6) (vr 5)), vr 7, [6, 7], [.fz (partsD m c l), .fz (.tup (tab m.length x)), .fz (.int w), .ol (tab m.length (upF (upF f v (f v + 1)) v 0)), .ol (pre.map wI), .fz (.int v), .un, .un]) (c.map pD) s = .ok ((kids c v).map wI) s := by
              rw [ev_lc1 (by simp; omega) (by simp), wipeE_cons, wipeE_cons, wipeE_nil]
              rw [lcL_filter (P := fun p => decide (p.1 = v)) (G := fun p => wI p.2) c fun p hp => ⟨_, rfl, by simp [int_nat], by simp [wI], rfl⟩]
              simp [kids]
            have hcat := ev_catN (st := s) (xs := pre.map wI) (ys := (kids c v).map wI) (by simp; omega)
            have hu : upF f v (mm m v) v = mm m v := by simp [upF]
            simp [partsD, iT, cD, lD, hfull] at hlc
            simp [l1_law_once, wI, hpop, at_tab hv, set_tab hv, hu, partsD, at_three0, at_three1, iT, cD, lD, hat, hfull, hlc, hcat]
          · rw [wt_app]
            have := wt_kids G hv (b := c.length + 1) (by omega)
            omega
          · intro j hj
            by_cases hjv : j = v
            · subst hjv; simp [upF]; omega
            · have := hf j hj
              simpa [upF, hjv] using this
          · refine hcg.trans ⟨dl v 1, fun j hj => ?_⟩
            have hk2 := vec_kids c v j
            simp only [vec] at hk2
            simp only [vec, List.count_append]
            rw [← hk2]
            by_cases hjv : j = v
            · subst hjv
              simp [upF, dl]
              omega
            · have hvj : ¬ v = j := fun e => hjv e.symm
              simp [upF, dl, hjv, hvj, List.count_cons]
              omega
          · intro u hu
            rcases List.mem_append.mp hu with hu | hu
            · exact hws u (by simp [hu])
            · unfold kids at hu
              obtain ⟨p, hp, rfl⟩ := List.mem_map.mp hu
              exact (G.up p (List.mem_filter.mp hp).1).2
          · rw [wt_app]
            have := wt_kids G hv (b := c.length + 1) (by omega)
            omega
        · refine .inr ⟨s, [.fz (partsD m c l), .fz (.tup (tab m.length x)), .fz (.int w), .ol (tab m.length (upF f v (f v + 1))), .ol (pre.map wI), .fz (.int v), .un, .un], s, wt m.length (c.length + 1) pre, ?_, ?_, ?_, rfl, _, _, _, rfl, ?_, ?_, ?_, rfl, ?_⟩
          · rw [htest]; simp
          · have hu : upF f v (f v + 1) v = f v + 1 := by simp [upF]
            simp [l1_law_once, wI, hpop, at_tab hv, set_tab hv, hu, partsD, at_three0, at_three1, iT, cD, lD, hat, hfull]
          · omega
          · intro j hj
            by_cases hjv : j = v
            · subst hjv; simp [upF]; omega
            · have := hf j hj
              simpa [upF, hjv] using this
          · refine hcg.trans (Cong.of_eq fun j hj => ?_)
            simp only [vec, List.count_append]
            by_cases hjv : j = v
            · subst hjv; simp [upF]; omega
            · have hvj : ¬ v = j := fun e => hjv e.symm
              simp [upF, hjv, hvj, List.count_cons]
          · intro u hu; exact hws u (by simp [hu])
          · omega) (wt m.length (c.length + 1) [w]) [.fz (partsD m c l), .fz (.tup (tab m.length x)), .fz (.int w), .ol (tab m.length x), .ol ([w].map wI), .un, .un, .un] st ⟨rfl, x, [w], .un, rfl, hr, .refl, by simpa using hw, rfl, by
      have : wt m.length (c.length + 1) [w] = (c.length + 1) ^ (m.length - w) := by simp [wt]
      rw [this]
      exact Nat.le_trans (Nat.pow_le_pow_right hb (by omega)) hB⟩
  subst hs he
  have hws0 : ws = [] := by
    have := wt_len (n := m.length) hb ws
    exact List.length_eq_zero_iff.mp (by omega)
  subst hws0
  refine ⟨f, ?_, hf, hcg.trans (Cong.of_eq fun j _ => by simp [vec])⟩
  simp [wI] at q1
  simp [φ_law_once, b_law_once, hlst, q1]
end HW
namespace HW
open PySem PySem.Spec PyProof.Rows L2 DL
variable {A : Cl} {st : Store} {m : List Int} {c : List (Nat × Nat)} {l : List (List Nat)} {env : DL.Env}
@[simp] theorem isSl_partsD : (partsD m c l).isSl = false := rfl
@[simp] theorem isSl_boardD : (boardD A m c l).isSl = false := rfl
@[simp] theorem tupN_parts {g : FGns} : tupN 3 g (partsD m c l) env = g [iT m, cD c, lD l] env := id rfl
@[simp] theorem len_lD : oLen env st [lD l] = .ok (.int l.length) st := by simp [lD]
@[simp] theorem len_iT : oLen env st [iT m] = .ok (.int m.length) st := by simp [iT]
theorem ix_lD {lv : Nat} (h : lv < l.length) : oIx env st (lD l) (.int lv) = .ok (wD l[lv]) st := by
  simp [lD, at_map h]
@[simp] theorem it_wD {v : List Nat} : itA1 () (wD v) st = .ok (v.map wI) st := id rfl
theorem HS.bel (H : HS st) : stBel st.length st = true := by
  obtain ⟨cells, s, k, rfl, hl⟩ := H.ex
  have : belL 2 (cells.map D.int) = true := belL_map (fun _ => by simp [D.bel]) _
  simp [hst, stBel, Cell.bel, this, belL, D.bel]
theorem p_mk (P : PartsOk m c l) (H : HS st) (h4 : env[4]? = some (.fz (iT m))) (h5 : env[5]? = some (.fz (cD c))) (h6 : env[6]? = some (.fz (lD l))) : mkF A.Board 3 (φ_Board_init A) (consA (vr 4) (consA (vr 5) (consA (vr 6) nilA))) env st = .ok (boardD A m c l) st := by
  refine mk_ok' (ds := [iT m, cD c, lD l]) (by simp [h4, h5, h6]) (by simp) rfl ?_ ?_ H.bel
  · have := p_init (A := A) (st := st ++ [.ins A.Board []]) P (k := st.length) (by simp)
    rw [this]
    simp
  · simp [belF, bel_parts]
theorem code_lt {a b : Nat × Nat} (h : lexP a b) (ha : a.2 < 4) (hb : b.2 < 4) : a.1 * 4 + a.2 < b.1 * 4 + b.2 := by
  rcases h with h | ⟨h, h2⟩ <;> omega
theorem PartsOk.clen (P : PartsOk m c l) : c.length ≤ 16 := by
  have h1 : (c.map fun p => p.1 * 4 + p.2).Pairwise (· < ·) := by
    rw [List.pairwise_map]
    refine List.Pairwise.imp_of_mem (fun {a b} ha hb h => ?_) P.lex
    have := P.good.up a ha
    have := P.good.up b hb
    have := P.four
    exact code_lt h (by omega) (by omega)
  have h2 := sorted_le (n := 16) h1 fun w hw => by
    obtain ⟨p, hp, rfl⟩ := List.mem_map.mp hw
    have := P.good.up p hp
    have := P.four
    omega
  simpa using h2
theorem PartsOk.pow (P : PartsOk m c l) : (c.length + 1) ^ m.length ≤ 90000 := by
  have h1 := P.clen
  have h2 := P.four
  calc (c.length + 1) ^ m.length ≤ 17 ^ m.length := Nat.pow_le_pow_left (by omega) _
    _ ≤ 17 ^ 4 := Nat.pow_le_pow_right (by omega) h2
    _ ≤ 90000 := by decide
theorem vec_sorted {v : List Nat} (h : v.Pairwise (· < ·)) (j : Nat) : vec v j = mv v 1 j := by
  have hn : v.Nodup := h.imp fun h => Nat.ne_of_lt h
  unfold vec mv
  by_cases hj : j ∈ v
  · have h1 : v.count j ≤ 1 := List.nodup_iff_count.mp hn j
    have h2 : 0 < v.count j := List.count_pos_iff.mpr hj
    rw [if_pos hj]; omega
  · rw [if_neg hj, List.count_eq_zero.mpr hj]; rfl
theorem mv_mul (v : List Nat) (t : Int) (j : Nat) : mv v t j = t * mv v 1 j := by
  unfold mv; split <;> simp
theorem mv_add (v : List Nat) (s t : Int) (j : Nat) : mv v (s + t) j = mv v s j + mv v t j := by
  unfold mv; split <;> simp
theorem mv_neg (v : List Nat) (t : Int) (j : Nat) : mv v (-t) j = - mv v t j := by
  unfold mv; split <;> simp
theorem ne_same {n : Nat} {f : Nat → Int} (h : n ≤ 1000) : oNe env st (.tup (tab n f)) (.tup (tab n f)) = .ok (.bl false) st := ne_refl' (n := 1) (by simp; omega) (by omega)
theorem alike_same {n : Nat} {f : Nat → Int} (h : n ≤ 1000) : φ_law_alike A 6 [.tup (tab n f), .tup (tab n f)] st = .ok (.bl true) st := p_alike 5 _ (by simp; omega) (by omega)
end HW
namespace DL
open PySem PySem.Spec PyProof.Rows L2
section
variable {env : Env} {st s : Store} {f fo fi fe fv : FE} {t : FT} {d v : D} {i j : Nat} {g : FM} {kvs : List (List Int × D)} {ns : List Int}
/-! ### dicts -/
def iTup' (ns : List Int) : D := .tup (ns.map .int)
@[simp] theorem slotE_od : slotE (some (.od kvs)) i st = .ok (.sl i) st := id rfl
@[simp] theorem keyD_ints : keyD (.tup (ns.map .int)) = some ns := intsD_map ns
def dicK : Option Slot → Option (List (List Int × D))
  | some (.od kvs) => some kvs
  | _ => none
@[simp] theorem dicK_od : dicK (some (.od kvs)) = some kvs := id rfl
@[simp] theorem dicD_sl : dicD env (.sl i) = dicK env[i]? := by
  show (match env[i]? with | some (.od kvs) => some kvs | _ => none) = _
  rcases env[i]? with _ | (_ | _ | _ | _) <;> rfl
@[simp] theorem dicD_dic : dicD env (.dic kvs) = some kvs := id rfl
def dlk (kvs : Option (List (List Int × D))) (ns : Option (List Int)) (s : Store) : Res D := match kvs, ns with
  | some kvs, some ns => ixK (kvs.lookup ns) s
  | _, _ => .no
@[simp] theorem dlk_some : dlk (some kvs) (some ns) s = ixK (kvs.lookup ns) s := id rfl
def dg2 (k : Env × D) (kd : D) (s : Store) : Res D := dlk (dicD k.1 k.2) (keyD kd) s
def dg1 (k : FE × Env) (o : D) (s : Store) : Res D := (k.1 k.2 s).go (k.2, o) dg2
@[simp] theorem ev_dgt : dgt fo fi env st = (fo env st).go (fi, env) dg1 := by
  show (fo env st).bind _ = (fo env st).bind _
  congr 1
@[simp] theorem ev_dg1 {o : D} : dg1 (fi, env) o s = (fi env s).go (env, o) dg2 := id rfl
@[simp] theorem ev_dg2 {o kd : D} : dg2 (env, o) kd s = dlk (dicD env o) (keyD kd) s := id rfl
def inK (neg : Bool) (kvs : Option (List (List Int × D))) (ns : Option (List Int)) (s : Store) : Res D := match kvs, ns with
  | some kvs, some ns => .ok (.bl (neg ^^ (kvs.lookup ns).isSome)) s
  | _, _ => .no
@[simp] theorem ev_inD {neg : Bool} {x y : D} : oInD neg env st x y = inK neg (dicD env y) (keyD x) st := by
  unfold oInD inK
  cases dicD env y <;> cases keyD x <;> try rfl
  cases neg <;> simp
@[simp] theorem inK_some {neg : Bool} : inK neg (some kvs) (some ns) s = .ok (.bl (neg ^^ (kvs.lookup ns).isSome)) s := id rfl
def dp3 (k : D × Env × D) (kd : D) (s : Store) : RS := match k.2.2, keyD kd with
  | .sl j, some ns => match k.2.1[j]? with
    | some (.od kvs) => if kvs.length < 100000 then .nx (k.2.1.set j (.od (putD kvs ns k.1))) s else .no
    | _ => .no
  | _, _ => .no
def dp2 (k : D × FE × Env) (o : D) (s : Store) : RS := (k.2.1 k.2.2 s).gS k.2.2 (k.1, k.2.2, o) dp3
def dp1 (k : FE × FE × Env) (v : D) (s : Store) : RS := if v.isSl = true then .no else (k.1 k.2.2 s).gS k.2.2 (v, k.2.1, k.2.2) dp2
@[simp] theorem ev_dpt : dpt fo fi fv env st = (fv env st).gS env (fo, fi, env) dp1 := id rfl
@[simp] theorem ev_dp1 : dp1 (fo, fi, env) v s = if v.isSl = true then .no else (fo env s).gS env (v, fi, env) dp2 := id rfl
@[simp] theorem ev_dp2 {o : D} : dp2 (v, fi, env) o s = (fi env s).gS env (v, env, o) dp3 := id rfl
theorem ev_dp3 (he : env[j]? = some (.od kvs)) (hl : kvs.length < 100000) : dp3 (v, env, .sl j) (.tup (ns.map .int)) s = .nx (env.set j (.od (putD kvs ns v))) s := by
  unfold dp3
  simp only [keyD_ints, he, hl, if_true]
def lenD (kvs : Option (List (List Int × D))) (s : Store) : Res D := match kvs with
  | some kvs => .ok (.int kvs.length) s
  | none => .no
@[simp] theorem ev_lenD : oLenD env st [d] = lenD (dicD env d) st := by
  show (match dicD env d with | some kvs => _ | none => _) = _
  cases dicD env d <;> rfl
@[simp] theorem lenD_some : lenD (some kvs) s = .ok (.int kvs.length) s := id rfl
def frK (k : Nat × FS × Env) : Option Slot → Store → RS
  | some (.od kvs), st => k.2.1 (k.2.2.set k.1 (.fz (.dic kvs))) st
  | some (.fz _), st => k.2.1 k.2.2 st
  | _, _ => .no
@[simp] theorem ev_frzD {p : FS} : frzD i p env st = frK (i, p, env) env[i]? st := by
  unfold frzD frK
  rcases env[i]? with _ | (_ | _ | _ | _) <;> rfl
@[simp] theorem ev_frK {p : FS} : frK (i, p, env) (some (.od kvs)) st = p (env.set i (.fz (.dic kvs))) st := id rfl
@[simp] theorem ev_frK2 {p : FS} : frK (i, p, env) (some (.fz d)) st = p env st := id rfl
@[simp] theorem isSl_dic : (D.dic kvs).isSl = false := id rfl
def ds1 (ns : Option (List Int)) (v : D) (s : Store) : Res (List (List Int × D)) := match ns with
  | some ns => if v.isSl = true then .no else .ok [(ns, v)] s
  | none => .no
theorem ev_dsp {fa fb : FE} {ns : List Int} (ha : fa env st = .ok (.tup (ns.map .int)) st) (hb : fb env st = .ok v st) (hv : v.isSl = false) : dsp fa fb env st = .ok [(ns, v)] st := by
  unfold dsp
  rw [ha]
  show (fb env st).bind _ = _
  rw [hb]
  show (match keyD (.tup (ns.map .int)) with | some ns => _ | none => _) = _
  rw [keyD_ints]
  simp only [hv]
  rfl
def cmd2 (kvs : List (List Int × D)) (is : List Itm) (s : Store) : Res (List Itm) := .ok (.newD kvs :: is) s
def cmd1 (k : FM × Env) (kvs : List (List Int × D)) (s : Store) : Res (List Itm) := (k.1 k.2 s).go kvs cmd2
@[simp] theorem ev_consMD {f : FD} : consMD f g env st = (f env st).go (g, env) cmd1 := id rfl
@[simp] theorem ev_cmd1 : cmd1 (g, env) kvs s = (g env s).go kvs cmd2 := id rfl
@[simp] theorem ev_cmd2 {is : List Itm} : cmd2 kvs is s = .ok (.newD kvs :: is) s := id rfl
@[simp] theorem setM_newD {ix : List Nat} {is : List Itm} : setM env (i :: ix) (.newD kvs :: is) = setM (env.set i (.od kvs)) ix is := id rfl
/-- a list is not empty -/
theorem ne_nilL {n : Nat} {xs : List D} (h : (D.lst xs).plain n = true) (hn : n ≤ 64) : oNe env st (.lst xs) (.lst []) = .ok (.bl (!decide (xs = []))) st := by
  cases xs with
  | nil => exact ne_refl' h hn
  | cons x r =>
    obtain ⟨p, h1, h2, h3⟩ := pyT_plain (env := env) (st := st) h hn
    obtain ⟨q, k1, k2, k3⟩ := pyT_plain (env := env) (st := st) (n := 1) (d := .lst []) (by simp) (by omega)
    have e2 : q = .list [] := by
      have : pyT env st (.lst []) = some (.list []) := by simp [pyT, pyL]
      rw [this] at k1; exact (Option.some.inj k1).symm
    subst e2
    have e1 : ∃ a b, p = .list (a :: b) := by
      have e : pyT env st (.lst (x :: r)) = (pyL env st (x :: r)).map PyData.list := by simp [pyT]
      rw [e] at h1
      cases hx : x.py env st with
      | none => simp [pyL, hx] at h1
      | some a =>
        cases hr : pyL env st r with
        | none => simp [pyL, hx, hr] at h1
        | some b => simp [pyL, hx, hr] at h1; exact ⟨a, b, h1.symm⟩
    obtain ⟨a, b, rfl⟩ := e1
    unfold oNe cmpD
    rw [h1, k1]
    simp only [h2, k2, and_self, if_true]
    simp [PyData.eqv, PyData.eqvAll]
end
end DL
namespace DL
open PySem PySem.Spec PyProof.Rows L2
section
variable {it it1 : FI} {g g1 : FGn} {t t1 : FT} {el : FE} {vs vs1 : List Nat} {env : Env} {st s : Store}
def lc2 (p : FGn × FT × FI × FGn × FT × FE × List Nat × List Nat × Env) (ds : List D) (s : Store) : Res (List D) :=
  if notOwned p.2.2.2.2.2.2.2.2 p.2.2.2.2.2.2.1 = true then chk (lcL2 p.1 p.2.1 p.2.2.1 p.2.2.2.1 p.2.2.2.2.1 p.2.2.2.2.2.1 p.2.2.2.2.2.2.2.1 (wipeE p.2.2.2.2.2.2.2.2 p.2.2.2.2.2.2.1) ds s) else .no
@[simp] theorem ev_lc2N : lc2N it g t it1 g1 t1 el vs vs1 env st = (it env st).go (g, t, it1, g1, t1, el, vs, vs1, env) lc2 := id rfl
theorem ev_lc2 {ds ys : List D} (hn : notOwned env vs = true) (h : lcL2 g t it1 g1 t1 el vs1 (wipeE env vs) ds s = .ok ys s) (hl : ys.length ≤ 100000) : lc2 (g, t, it1, g1, t1, el, vs, vs1, env) ds s = .ok ys s := by
  have hl := small_line hl
  simp only [lc2, hn, if_true, h, chk, Res.bind, hl]
theorem lcL2_map {α : Type} {F : α → D} {G : α → List D} {env0 : Env} : ∀ (as : List α), (∀ a ∈ as, ∃ e ds, g (F a) env0 = some e ∧ t e st = .ok true st ∧ it1 e st = .ok ds st ∧ notOwned e vs1 = true ∧ lcL g1 t1 el (wipeE e vs1) ds st = .ok (G a) st) →
    lcL2 g t it1 g1 t1 el vs1 env0 (as.map F) st = .ok (as.flatMap G) st
  | [], _ => rfl
  | a :: r, h => by
    obtain ⟨e, ds, h1, h2, h3, h4, h5⟩ := h a List.mem_cons_self
    have ih := lcL2_map r fun b hb => h b (List.mem_cons_of_mem _ hb)
    rw [List.map_cons]
    unfold lcL2
    simp only [h1, h2, noE, Res.bind, if_true, h3, h4, h5, ih, List.flatMap_cons]
theorem consG_nx {g : FG} {r : FGs} {d : D} {ds : List D} {e : Env} {s : Store} (h : g d env st = .nx e s) : consG g r (d :: ds) env st = r ds e s := by
  unfold consG
  simp only [h]
theorem ev_set2 {k a b i j : Nat} {xs : List D} {d1 d2 : D} (hk : env[k]? = some (.ol xs)) (ha : env[a]? = some (.fz (.int i))) (hb : env[b]? = some (.fz (.int j))) (hi : i < xs.length) (hj : j < xs.length) (hka : k ≠ a) (hkb : k ≠ b) :
    tupG 2 (consG (subG (vr k) (vr a)) (consG (subG (vr k) (vr b)) nilG)) (.tup [d1, d2]) env st = .nx (env.set k (.ol ((xs.set i d1).set j d2))) st := by
  have hkl : k < env.length := by
    rcases Nat.lt_or_ge k env.length with h | h
    · exact h
    · rw [List.getElem?_eq_none h] at hk; cases hk
  have e1 : subG (vr k) (vr a) d1 env st = .nx (env.set k (.ol (xs.set i d1))) st := by
    simp [hk, ha, set_nat hi]
  have hk2 : (env.set k (.ol (xs.set i d1)))[k]? = some (.ol (xs.set i d1)) := by simp [hkl]
  have hb2 : (env.set k (.ol (xs.set i d1)))[b]? = some (.fz (.int j)) := by rw [List.getElem?_set_ne hkb]; exact hb
  have e2 : subG (vr k) (vr b) d2 (env.set k (.ol (xs.set i d1))) st = .nx (env.set k (.ol ((xs.set i d1).set j d2))) st := by
    simp only [ev_subG, ev_vr, hk2, slotE_ol, gS_ok, ev_sub1, hb2, slotE_fz, ev_sub2, ev_mutL_sl, ev_mutK]
    rw [set_nat (by simpa using hj)]
    simp
  have e3 : tupG 2 (consG (subG (vr k) (vr a)) (consG (subG (vr k) (vr b)) nilG)) (.tup [d1, d2]) env st = consG (subG (vr k) (vr a)) (consG (subG (vr k) (vr b)) nilG) [d1, d2] env st := by simp only [tupG, List.length_cons, List.length_nil, if_true]
  rw [e3, consG_nx e1, consG_nx e2]
  rfl
theorem forL_rt {tg : FG} {b : FS} {r : List D} {d x : D} {s2 : Store} (h : (tg d env st).seq b = .rt x s2) (hn : ∀ x s, tg d env st ≠ .rt x s) : forL tg b (d :: r) env st = .rt x s2 := by
  rw [forL]
  cases h1 : tg d env st with
  | nx e1 s1 => rw [h1] at h; simp only; rw [show b e1 s1 = .rt x s2 from h]
  | rt x s => exact absurd h1 (hn _ _)
  | _ => rw [h1] at h; cases h
end
end DL
namespace DL
open PySem PySem.Spec PyProof.Rows L2
section
variable {env : Env} {st s s1 s2 : Store} {f g h : FE} {xs ys zs : List D}
theorem ev_zipM (h1 : f env st = .ok (.lst xs) s1) (h2 : g env s1 = .ok (.tup ys) s2) : itZipM f g env st = .ok (zip2 xs ys) s2 := by
  unfold itZipM
  rw [h1]
  simp only [Res.bind, h2]
theorem ev_zip3 {s3 : Store} (h1 : f env st = .ok (.tup xs) s1) (h2 : g env s1 = .ok (.tup ys) s2) (h3 : h env s2 = .ok (.tup zs) s3) : itZip3 f g h env st = .ok (zip3 xs ys zs) s3 := by
  unfold itZip3
  rw [h1]
  simp only [Res.bind, h2, h3]
theorem ev_rd {s3 : Store} {i j : Int} (h1 : f env st = .ok (.int i) s1) (h2 : g env s1 = .ok (.int j) s2) (h3 : h env s2 = .ok (.int (-1)) s3) (hi : rngOk i = true) (hj : rngOk j = true) : itRd f g h env st = .ok (rngU i (i - j).toNat) s3 := by
  unfold itRd
  rw [h1]
  simp only [Res.bind, h2, h3]
  simp [hi, hj]
theorem ev_forS' {it : FI} {tg : FG} {b : FS} {ds : List D} (hi : it env st = .ok ds s1) : forS it tg b env st = forL tg b ds env s1 := by
  unfold forS
  rw [hi]; rfl
theorem zip3_tabs {n : Nat} {x y z : Nat → Int} : zip3 (tab n x) (tab n y) (tab n z) = (List.range n).map fun i => .tup [.int (x i), .int (y i), .int (z i)] := by
  apply List.ext_getElem?
  intro i
  by_cases h : i < n
  · rw [zip3_get _ _ _ i (.int (x i)) (.int (y i)) (.int (z i)) (tab_get h) (tab_get h) (tab_get h)]
    simp [h]
  · rw [List.getElem?_eq_none (by rw [zip3_length]; simp; omega), List.getElem?_eq_none (by simp; omega)]
end
end DL
namespace DL
open PySem PySem.Spec PyProof.Rows L2
section
variable {env : Env} {st s : Store} {f : FE}
theorem lcL_filter {α : Type} {g : FGn} {t : FT} {el : FE} {F G : α → D} {P : α → Bool} {env0 : DL.Env} : ∀ (as : List α), (∀ a ∈ as, ∃ e, g (F a) env0 = some e ∧ t e st = .ok (P a) st ∧ el e st = .ok (G a) st ∧ (G a).isSl = false) → lcL g t el env0 (as.map F) st = .ok ((as.filter P).map G) st
  | [], _ => rfl
  | a :: r, h => by
    obtain ⟨e, h1, h2, h3, h4⟩ := h a List.mem_cons_self
    have ih := lcL_filter (P := P) (G := G) (F := F) (g := g) (t := t) (el := el) (env0 := env0) r fun x hx => h x (List.mem_cons_of_mem _ hx)
    rw [List.map_cons, lcL, h1]
    simp only
    rw [h2]
    cases hp : P a
    · simp only [noE, Res.bind, Bool.false_eq_true, if_false]
      rw [ih]
      simp [hp]
    · simp only [noE, Res.bind, if_true]
      rw [h3]
      simp only [h4, Bool.false_eq_true, if_false]
      rw [ih]
      simp [hp]
theorem forL_err {tg : FG} {b : FS} {r : List D} {d : D} {C : Addr} {fs : List (Str × D)} {e2 : Env} {s2 : Store} (h : (tg d env st).seq b = .err C fs e2 s2) : forL tg b (d :: r) env st = .err C fs e2 s2 := by
  rw [forL]
  cases h1 : tg d env st with
  | nx e1 s1 => rw [h1] at h; simp only; rw [show b e1 s1 = .err C fs e2 s2 from h]
  | err c f e s => rw [h1] at h; simp only; exact h
  | _ => rw [h1] at h; cases h
theorem oAll_any {α : Type} {F : α → Bool} (as : List α) : oAll env st [.lst (as.map fun a => .bl (F a))] = .ok (.bl (as.all F)) st := by
  have e : as.map (fun a => D.bl (F a)) = (as.map F).map D.bl := by simp
  rw [e]
  show (match (some ((as.map F).map D.bl)).bind blsD with | some ns => Res.ok (D.bl (ns.all id)) st | none => .no) = _
  simp only [Option.bind_some, blsD_map]
  congr 2
  induction as with
  | nil => rfl
  | cons a r ih => simp [List.all_cons, ih]
theorem py_tupc {x : D} {r : List D} {p : PyData} (h : pyT env st (.tup (x :: r)) = some p) : ∃ a b, p = .tuple (a :: b) := by
  have e : pyT env st (.tup (x :: r)) = (pyL env st (x :: r)).map PyData.tuple := by simp [pyT, D.py]
  rw [e] at h
  cases hx : x.py env st with
  | none => simp [pyL, hx] at h
  | some a =>
    cases hr : pyL env st r with
    | none => simp [pyL, hx, hr] at h
    | some b => simp [pyL, hx, hr] at h; exact ⟨a, b, h.symm⟩
theorem cmp_nilT {neg : Bool} {n : Nat} {xs : List D} (h : (D.tup xs).plain n = true) (hn : n ≤ 64) : cmpD neg env st (.tup xs) (.tup []) = .ok (.bl (neg ^^ decide (xs = []))) st := by
  cases xs with
  | nil => cases neg <;> simp only [Bool.false_xor, Bool.true_xor, decide_true, Bool.not_true]
           · exact eq_refl' h hn
           · exact ne_refl' h hn
  | cons x r =>
    obtain ⟨p, h1, h2, h3⟩ := pyT_plain (env := env) (st := st) h hn
    obtain ⟨q, k1, k2, k3⟩ := pyT_plain (env := env) (st := st) (n := 1) (d := .tup []) (by simp) (by omega)
    have e2 : q = .tuple [] := by
      have : pyT env st (.tup []) = some (.tuple []) := by simp [pyT, D.py, pyL]
      rw [this] at k1; exact (Option.some.inj k1).symm
    subst e2
    obtain ⟨a, b, rfl⟩ := py_tupc h1
    unfold cmpD
    rw [h1, k1]
    simp only [h2, k2, and_self, if_true]
    cases neg <;> simp [PyData.eqv, PyData.eqvAll]
theorem eq_nilT {n : Nat} {xs : List D} (h : (D.tup xs).plain n = true) (hn : n ≤ 64) : oEq env st (.tup xs) (.tup []) = .ok (.bl (decide (xs = []))) st := by
  have := cmp_nilT (env := env) (st := st) (neg := false) h hn
  simpa using this
theorem ne_nilT {n : Nat} {xs : List D} (h : (D.tup xs).plain n = true) (hn : n ≤ 64) : oNe env st (.tup xs) (.tup []) = .ok (.bl (!decide (xs = []))) st := by
  have := cmp_nilT (env := env) (st := st) (neg := true) h hn
  simpa using this
theorem plain_up : ∀ (n : Nat) (d : D), d.plain n = true → d.isSl = false
  | _, .sl _, h => by cases ‹Nat› <;> simp [D.plain] at h
  | _, .non, _ => rfl
  | _, .bl _, _ => rfl
  | _, .int _, _ => rfl
  | _, .str _, _ => rfl
  | _, .tup _, _ => rfl
  | _, .lst _, _ => rfl
  | _, .scr _, _ => rfl
  | _, .own _, _ => rfl
  | _, .ins _ _, _ => rfl
  | _, .ty _, _ => rfl
  | _, .cls _, _ => rfl
  | _, .dic _, _ => rfl
  | _, .mtp _, _ => rfl
theorem plainL_mem {n : Nat} : ∀ {xs : List D}, plainL n xs = true → ∀ x ∈ xs, x.plain n = true
  | a :: r, h, x, hx => by
    simp at h
    rcases List.mem_cons.mp hx with rfl | hx
    · exact h.1
    · exact plainL_mem h.2 x hx
theorem plainL_of {n : Nat} : ∀ {xs : List D}, (∀ x ∈ xs, x.plain n = true) → plainL n xs = true
  | [], _ => by simp
  | a :: r, h => by
    simp [h a List.mem_cons_self, plainL_of fun x hx => h x (List.mem_cons_of_mem a hx)]
theorem noSl_plain {n : Nat} : ∀ {xs : List D}, plainL n xs = true → noSl xs = true
  | [], _ => by simp
  | a :: r, h => by
    simp at h
    simp [plain_up n a h.1, noSl_plain h.2]
end
end DL
namespace DL
open PySem PySem.Spec PyProof.Rows L2
section
variable {env : Env} {st s : Store} {f : FE}
/-- a loop that stops at the first bad place -/
theorem forL_stop {tg : FG} {b : FS} {ds : List D} {bad : Nat → Bool} {P : Nat → Env → Prop} {R : Nat → RS → Prop}
    (step : ∀ k (hk : k < ds.length) env, P k env → (∀ j, j < k → bad j = false) → (bad k = false ∧ ∃ e, (tg ds[k] env st).seq b = .nx e st ∧ P (k + 1) e) ∨ (bad k = true ∧ ∀ r, R k (forL tg b (ds[k] :: r) env st))) (h0 : P 0 env) :
    ((∀ k, k < ds.length → bad k = false) ∧ ∃ e, forL tg b ds env st = .nx e st ∧ P ds.length e) ∨ ∃ k, k < ds.length ∧ bad k = true ∧ (∀ j, j < k → bad j = false) ∧ R k (forL tg b ds env st) := by
  have key : ∀ (r : List D) (k : Nat) (env : Env), r = ds.drop k → k ≤ ds.length → P k env → (∀ j, j < k → bad j = false) → ((∀ k, k < ds.length → bad k = false) ∧ ∃ e, forL tg b r env st = .nx e st ∧ P ds.length e) ∨ ∃ k, k < ds.length ∧ bad k = true ∧ (∀ j, j < k → bad j = false) ∧ R k (forL tg b r env st) := by
    intro r
    induction r with
    | nil =>
      intro k env hr hk hp hb
      have : ds.length = k := by
        have := congrArg List.length hr
        simp at this; omega
      subst this
      exact .inl ⟨hb, env, rfl, hp⟩
    | cons a r ih =>
      intro k env hr hk hp hb
      have hkn : k < ds.length := by
        have := congrArg List.length hr
        simp at this; omega
      rw [List.drop_eq_getElem_cons hkn] at hr
      obtain ⟨rfl, rfl⟩ := List.cons.inj hr
      rcases step k hkn env hp hb with ⟨q1, e, q2, q3⟩ | ⟨q1, q2⟩
      · rw [forL_cons q2]
        exact ih (k + 1) e rfl hkn q3 fun j hj => by
          rcases Nat.lt_or_ge j k with h | h
          · exact hb j h
          · rw [show j = k by omega]; exact q1
      · exact .inr ⟨k, hkn, q1, hb, q2 _⟩
  exact key ds 0 env rfl (Nat.zero_le _) h0 fun j hj => by omega
theorem enum_get : ∀ (xs : List D) (i k : Nat) (h : k < (enumFrom i xs).length) (h2 : k < xs.length), (enumFrom i xs)[k] = .tup [.int ((i + k : Nat) : Int), xs[k]]
  | a :: r, i, 0, _, _ => rfl
  | a :: r, i, k + 1, h, h2 => by
    have := enum_get r (i + 1) k (by simpa [enumFrom] using h) (by simpa using h2)
    simp only [enumFrom, List.getElem_cons_succ]
    rw [this, show i + 1 + k = i + (k + 1) by omega]
theorem enum_len : ∀ (xs : List D) (i : Nat), (enumFrom i xs).length = xs.length
  | [], _ => rfl
  | a :: r, i => by simp [enumFrom, enum_len r]
end
end DL
namespace DL
open PySem PySem.Spec PyProof.Rows L2
section
variable {env : Env} {st s : Store} {f : FE}
theorem eq_nilL {n : Nat} {xs : List D} (h : (D.lst xs).plain n = true) (hn : n ≤ 64) : oEq env st (.lst xs) (.lst []) = .ok (.bl (decide (xs = []))) st := by
  have h1 := ne_nilL (env := env) (st := st) h hn
  unfold oNe oEq cmpD at *
  split at h1
  · split at h1
    · rename_i c
      rw [if_pos c]
      simp only [if_true, Res.ok.injEq, D.bl.injEq, and_true] at h1
      have := congrArg (fun b => !b) h1
      simp only [Bool.not_not] at this
      simp [this]
    · cases h1
  · cases h1
end
end DL
namespace DL
open PySem PySem.Spec PyProof.Rows L2
section
variable {env : Env} {st s s1 s2 : Store} {f g : FE} {xs ys : List D} {k : Nat}
theorem cut_to' : cutD xs none (some (k : Int)) = xs.take k := by
  unfold cutD
  have e1 : HT.sIx xs.length 0 none = 0 := rfl
  have e2 : HT.sIx xs.length xs.length (some (k : Int)) = min k xs.length := HT.sIx_nat _ _ k
  rw [e1, e2]
  simp [List.take_eq_take_iff]
theorem cut_from' : cutD xs (some (k : Int)) none = xs.drop k := by
  unfold cutD
  have e1 : HT.sIx xs.length 0 (some (k : Int)) = min k xs.length := HT.sIx_nat _ _ k
  have e2 : HT.sIx xs.length xs.length none = xs.length := rfl
  rw [e1, e2]
  by_cases h : k ≤ xs.length
  · rw [Nat.min_eq_left h]
    exact List.take_of_length_le (by simp)
  · rw [Nat.min_eq_right (by omega), List.drop_eq_nil_of_le (Nat.le_refl _), List.drop_eq_nil_of_le (show xs.length ≤ k by omega)]
    simp
theorem ev_slTo (h : f env st = .ok (.tup xs) s1) (h2 : g env s1 = .ok (.int (k : Int)) s2) : slV f noP (someP g) env st = .ok (.tup (xs.take k)) s2 := by
  unfold slV
  rw [h]
  simp only [Res.bind, someP, noP, h2, cut_to']
theorem ev_slFrom (h : f env st = .ok (.tup xs) s1) (h2 : g env s1 = .ok (.int (k : Int)) s2) : slV f (someP g) noP env st = .ok (.tup (xs.drop k)) s2 := by
  unfold slV
  rw [h]
  simp only [Res.bind, someP, noP, h2, cut_from']
theorem ev_addT' {xs ys : List D} (h : xs.length + ys.length ≤ 100000) : oAdd env st (.tup xs) (.tup ys) = .ok (.tup (xs ++ ys)) st := if_pos (small_line h)
theorem ev_rep9 {d : D} {n : Nat} (h : n ≤ 1000) : oMul env st (.lst [d]) (.int n) = .ok (.lst (List.replicate n d)) st := by
  have hc : 0 ≤ (n : Int) ∧ (n : Int) < 2 ^ 63 ∧ [d].length * (n : Int).toNat ≤ sizeLine := ⟨by omega, by omega, by have := small_line (show n ≤ 100000 by omega); simpa using this⟩
  unfold oMul
  simp only [seqL_lst]
  rw [if_pos hc, Int.toNat_natCast, repD_one]
theorem ev_repT {n : Nat} (h1 : xs ≠ []) (h3 : n ≤ 1000) (h4 : xs.length ≤ 1000) : oMul env st (.tup xs) (.int n) = .ok (.tup (repD n xs)) st := by
  show (if xs ≠ [] ∧ 0 ≤ (n : Int) ∧ (n : Int) ≤ 1000 ∧ xs.length ≤ 1000 then Res.ok (D.tup (repD (n : Int).toNat xs)) st else .no) = _
  rw [if_pos ⟨h1, by omega, by omega, h4⟩, Int.toNat_natCast]
theorem ev_prp' {C : Addr} {φ : Fn} {fs : List (Str × D)} {d : D} (hf : f env st = .ok (.ins C fs) st) (hd : φ [.ins C fs] st = .ok d st) : prp C φ f env st = .ok d st := by
  unfold prp
  rw [hf]
  simp only [Res.bind]
  have e : insD C st (.ins C fs) = some fs := by simp [insD]
  rw [e]
  simp only [show (D.ins C fs).isSl = false from rfl, Bool.false_eq_true, if_false, hd]
  rfl
theorem pyL_map {α : Type} {F : α → D} {G : α → PyData} (h : ∀ a, (F a).py env st = some (G a)) : ∀ as : List α, pyL env st (as.map F) = some (as.map G)
  | [] => by simp [pyL]
  | a :: r => by simp [pyL, h a, pyL_map h r]
end
end DL
namespace DL
open PySem PySem.Spec PyProof.Rows L2
section
variable {env : Env} {st s : Store} {f g : FE} {A : FA} {xs : List D} {ns : List Int}
def cntM2 (k : List D) (x : D) (s : Store) : Res D := match x, intsD k with
  | .int k, some ns => .ok (.int (ns.count k : Nat)) s
  | _, _ => .no
def cntM1 (k : FE × Env) (d : D) (s : Store) : Res D := match d with
  | .mtp xs => (k.1 k.2 s).go xs cntM2
  | _ => .no
@[simp] theorem ev_cntM : cntM f g env st = (f env st).go (g, env) cntM1 := by
  unfold cntM Res.go cntM1
  cases f env st <;> rfl
@[simp] theorem ev_cntM1 : cntM1 (g, env) (.mtp xs) s = (g env s).go xs cntM2 := id rfl
@[simp] theorem ev_cntM2 {k : Int} : cntM2 (ns.map .int) (.int k) s = .ok (.int (ns.count k : Nat)) s := by
  unfold cntM2; rw [intsD_map]
@[simp] theorem isSl_mtpM : (D.mtp xs).isSl = false := id rfl
def tupM1 (_ : Unit) (ds : List D) (s : Store) : Res D := if ds.length ≤ sizeLine ∧ noSl ds = true then .ok (.mtp ds) s else .no
@[simp] theorem ev_tupM : tupM A env st = (A env st).go () tupM1 := id rfl
theorem ev_tupM1 {ds : List D} (h : ds.length ≤ 100000) (hn : noSl ds = true) : tupM1 () ds s = .ok (.mtp ds) s := if_pos ⟨small_line h, hn⟩
@[simp] theorem ev_tupM1_1 {a : D} : tupM1 () [a] s = if a.isSl = false then .ok (.mtp [a]) s else .no := by
  cases h : a.isSl
  · exact ev_tupM1 (by simp) (by simp [noSl, h])
  · exact if_neg (by simp [noSl, h])
@[simp] theorem ev_tupleM {xs : List D} : oTupleM env st [.lst xs] = if noSl xs = true then .ok (.mtp xs) st else .no := id rfl
@[simp] theorem ev_isiTM : oIsi env st [.mtp xs, .ty "tuple"] = .ok (.bl true) st := id rfl
@[simp] theorem ev_lenM : oLen env st [.mtp xs] = .ok (.int xs.length) st := id rfl
@[simp] theorem ev_ixM {n : Int} : oIx env st (.mtp xs) (.int n) = ixK (atD xs n) st := id rfl
theorem cut_to_ {k : Nat} : cutD xs none (some (k : Int)) = xs.take k := by
  unfold cutD
  have e1 : HT.sIx xs.length 0 none = 0 := rfl
  have e2 : HT.sIx xs.length xs.length (some (k : Int)) = min k xs.length := HT.sIx_nat _ _ k
  rw [e1, e2]
  simp [List.take_eq_take_iff]
def slMto (k : Nat) (d : D) (s : Store) : Res D := match d with
  | .mtp xs => .ok (.mtp (xs.take k)) s
  | _ => .no
@[simp] theorem ev_slM1 : slM f noP (someP (cst (.int 1))) env st = (f env st).go 1 slMto := by
  unfold slM Res.go slMto
  cases f env st with
  | ok d s =>
    cases d with
    | mtp xs => simp only [Res.bind, noP, someP, cst]; rw [show ((1 : Int)) = ((1 : Nat) : Int) from rfl, cut_to_]
    | _ => rfl
  | _ => rfl
@[simp] theorem ev_slMto {k : Nat} : slMto k (.mtp xs) s = .ok (.mtp (xs.take k)) s := id rfl
end
end DL
/-! a def under another name of the module -/
namespace DL
open PySem PySem.Spec PyProof.Rows L2
structure AtN (K : PySem.W.Frag) (mg : Str → Option Value) (x y : Str) (sd : Stmt) : Prop where
  ex : ∃ f fd, Fun K y y sd f fd ∧ mg x = some (.ref f)
theorem AtN.cal {K : PySem.W.Frag} {P : Program} {w : World} {mg : Str → Option Value} {base : Heap} {x y : Str} {sd : Stmt} {N ps : List Str} {k : Nat} {body : FS} (A : AtN K mg x y sd) (Sc : FnScope N ps (defScope sd)) (h : ∀ E, DSs ⟨P, w, K, mg, base, N, defScope sd, fun _ => true, k, E⟩ (defBody sd) body)
    (hb : ∀ (kV doc pm : Value) (an : Option Addr) (cdv ct : Value) (us : List Value), us.length = ps.length → bindArgs (PySem.W.fnOf y y (defArgs sd) (defBody sd) (defScope sd) .none kV doc pm an cdv ct) ⟨us, []⟩ = pure (ps.zip us)) : Cal P w K mg base x (k + 1) ps.length (runF N.length body) := by
  obtain ⟨f, fd, F, hm⟩ := A.ex
  exact ⟨f, fd, ps, df_of F Sc h, hm, F.kp, F.binds hb⟩
end DL
/-! texts: join, split, f-strings, numbers as texts and back, enumerate from one on -/
namespace DL
open PySem PySem.Spec PyProof.Rows L2
section
variable {Γ : Ga} {K : PySem.W.Frag} {E : WX}
variable {a b e o : Expr} {es : List Expr} {fa fb fo : FE} {fs : FA} {pos p p2 apos tpos : Pos} {elts : List Expr} {kk : Nat}
variable {B : Base} {ρ ρ' : List Addr} {F F' H H' : Hp} {env env' : Env} {st st' : Store} {σ σ' : L2.St} {v : V} {d : D}
theorem de_cstr {x : Str} {z : Str} (hm : ∃ t, Γ.mg x = some (.str z t)) (hg : Γ.sc.names.lookup x = some .globalImplicit) (hd : (x == ("__debug__" : Str)) = false := by decide) : DE Γ (.Name x pos) (cst (.str z)) := by
  obtain ⟨t, hm⟩ := hm
  exact de_glob (v := .str z) hg hm ⟨t, rfl⟩ (fun _ _ => .str z) hd
/-- texts alone -/
def strL : List D → Option (List Str)
  | [] => some []
  | .str x :: r => (strL r).map (x :: ·)
  | _ => none
theorem strL_ok : ∀ {ds : List D} {ys : List Str} {vs : List V}, RpL K ρ F vs ds → strL ds = some ys → vs = ys.map V.str
  | [], ys, vs, r, h => by
    cases r
    cases h
    rfl
  | .str x :: ds, ys, vs, r, h => by
    cases r with
    | cons h1 h2 =>
      cases h1
      cases hs : strL ds with
      | none => rw [strL, hs] at h; cases h
      | some zs =>
        rw [strL, hs] at h
        cases h
        rw [strL_ok h2 hs]; rfl
  | .non :: _, _, _, _, h => by cases h
  | .bl _ :: _, _, _, _, h => by cases h
  | .int _ :: _, _, _, _, h => by cases h
  | .tup _ :: _, _, _, _, h => by cases h
  | .lst _ :: _, _, _, _, h => by cases h
  | .scr _ :: _, _, _, _, h => by cases h
  | .own _ :: _, _, _, _, h => by cases h
  | .sl _ :: _, _, _, _, h => by cases h
  | .ins _ _ :: _, _, _, _, h => by cases h
  | .ty _ :: _, _, _, _, h => by cases h
  | .cls _ :: _, _, _, _, h => by cases h
  | .dic _ :: _, _, _, _, h => by cases h
  | .mtp _ :: _, _, _, _, h => by cases h
def joinV (f g : FE) : FE := fun env st => (f env st).bind fun d s1 => match d with
  | .str a => (g env s1).bind fun e s2 => match seqA env s2 e with
    | some ds => match strL ds with
      | some ys => if (ys.map (·.length)).sum + ys.length * a.length ≤ 16777216 then .ok (.str (Txt.join a ys)) s2 else .no
      | none => .no
    | none => .no
  | _ => .no
def rJoin (K : PySem.W.Frag) : V → List V → Hp → VK → Prop := fun x xs H Q => ∃ a p, ∃ ys : List Str, x = .str a ∧ xs = [.ref p] ∧ (SqL K H p (ys.map V.str) ∨ SqT K H p (ys.map V.str)) ∧ (ys.map (·.length)).sum + ys.length * a.length ≤ 16777216 ∧ Q (.str (Txt.join a ys)) H
theorem de_join (ha : DE Γ o fo) (hb : DE Γ e fa) (hs : ∀ env : PySem.Env, starEach [e] env = [(false, eval e env)] := by intro _; rfl) (hbase : ∀ env : PySem.Env, attributeBase o "join" env (eval o env) = eval o env := by intro _; rfl) (hline : (apos.endLine == pos.line) = true := by rfl) :
    DE Γ (.Call (.Attribute o "join" apos) [e] [] pos) (joinV fo fa) := by
  obtain ⟨t, pt, s⟩ := ha.run
  obtain ⟨u, pu, s'⟩ := hb.run
  refine ⟨tM1 (rJoin Γ.K) t u, fun X m => ?_, fun B ρ F env st σ H Q S hq => s B ρ F env st σ H _ S (Out.bind hq fun d s1 ρ1 F1 H1 v S1 l1 e1 r1 h1 => ?_)⟩
  · have h := pe_join (pos := pos) (apos := apos) (pt X m) (pu X m) (hs X.env) (hbase X.env) hline
    rw [m.K] at h
    exact h
  · split at h1
    · rename_i x
      cases r1.str
      refine ⟨⟨_, rfl⟩, s' B ρ1 F1 env s1 σ H1 _ S1 (Out.bind h1 fun e s2 ρ2 F2 H2 w S2 l2 e2 r2 h2 => ?_)⟩
      split at h2
      · rename_i ds hds
        obtain ⟨q, vs, rfl, g1, g2⟩ := seqA_ok S2 r2 hds
        split at h2
        · rename_i ys hys
          have e := strL_ok g2 hys
          subst e
          split at h2
          · rename_i hc
            exact ⟨x, q, ys, rfl, rfl, g1, hc, h2.ret S2 (.inl (.str _))⟩
          · exact h2.elim
        · exact h2.elim
      · exact h2.elim
    · exact h1.elim
def splitN (f g : FE) : FN := fun env st => (f env st).bind fun d s1 => match d with
  | .str a => (g env s1).bind fun e s2 => match e with
    | .str b => if (b.length == 0) = false ∧ a.length + 2 ≤ sizeLine then .ok ((Txt.split a b).map .str) s2 else .no
    | _ => .no
  | _ => .no
theorem rp_strs : ∀ ys : List Str, RpL K ρ F (ys.map V.str) (ys.map D.str)
  | [] => .nil
  | y :: r => .cons (.str y) (rp_strs r)
theorem dn_split (ha : DE Γ o fo) (hb : DE Γ e fa) (hs : ∀ env : PySem.Env, starEach [e] env = [(false, eval e env)] := by intro _; rfl) (hbase : ∀ env : PySem.Env, attributeBase o "split" env (eval o env) = eval o env := by intro _; rfl) (hline : (apos.endLine == pos.line) = true := by rfl) :
    DN Γ (.Call (.Attribute o "split" apos) [e] [] pos) (splitN fo fa) := by
  obtain ⟨t, pt, s⟩ := ha.run
  obtain ⟨u, pu, s'⟩ := hb.run
  refine ⟨_, fun X m => pe_split (pos := pos) (apos := apos) (pt X m) (pu X m) (hs X.env) (hbase X.env) hline, fun B ρ F env st σ H Q S hq => s B ρ F env st σ H _ S (OutN.bind hq fun d s1 ρ1 F1 H1 v S1 l1 e1 r1 h1 => ?_)⟩
  split at h1
  · rename_i x
    cases r1.str
    refine ⟨⟨_, rfl⟩, s' B ρ1 F1 env s1 σ H1 _ S1 (OutN.bind h1 fun e s2 ρ2 F2 H2 w S2 l2 e2 r2 h2 => ?_)⟩
    split at h2
    · rename_i y
      cases r2.str
      split at h2
      · rename_i hc
        exact ⟨x, y, rfl, rfl, hc.1, hc.2, fun q hq => h2.ret S2 (rp_strs _) hq⟩
      · exact h2.elim
    · exact h2.elim
  · exact h1.elim
/-- f-strings -/
def fmtV (f : FE) : FE := fun env st => (f env st).bind fun d s => match d with
  | .str y => if y.length ≤ sizeLine then .ok (.str y) s else .no
  | .int i => if i.natAbs.log2 < 1920 then .ok (.str (toString i)) s else .no
  | _ => .no
theorem de_fmt (ha : DE Γ e fa) : DE Γ (.FormattedValue e (-1) none pos) (fmtV fa) := by
  obtain ⟨t, pt, s⟩ := ha.run
  refine ⟨_, fun X m => pe_fmt (pos := pos) (pt X m), fun B ρ F env st σ H Q S hq => s B ρ F env st σ H _ S (Out.bind hq fun d s1 ρ1 F1 H1 v S1 l1 e1 r1 h1 => ?_)⟩
  split at h1
  · cases r1.str
    split at h1
    · rename_i hc
      exact .inl ⟨_, rfl, hc, h1.ret S1 (.inl (.str _))⟩
    · exact h1.elim
  · have r2 := r1.rp rfl
    cases r2
    split at h1
    · rename_i hc
      exact .inr ⟨_, rfl, hc, h1.ret S1 (.inl (.str _))⟩
    · exact h1.elim
  · exact h1.elim
structure DJ (Γ : Ga) (es : List Expr) (gs : List FE) : Prop where
  run : ∃ ts : List TE, (∀ X, Mt Γ X → PJ X es ts) ∧ ∃ _ : ts.length = gs.length, ∀ (i : Nat) (h : i < ts.length) (h' : i < gs.length), SndE Γ.K Γ.E ts[i] gs[i]
theorem dj_nil : DJ Γ [] [] := ⟨[], fun _ _ => .nil, rfl, fun i h => by simp at h⟩
theorem dj_cons {gs : List FE} (ha : DE Γ e fa) (h : DJ Γ es gs) : DJ Γ (e :: es) (fa :: gs) := by
  obtain ⟨t, pt, s⟩ := ha.run
  obtain ⟨ts, pj, hl, sn⟩ := h.run
  refine ⟨t :: ts, fun X m => .cons (pt X m) (pj X m), by simp [hl], fun i h1 h2 => ?_⟩
  match i, h1, h2 with
  | 0, _, _ => exact s
  | i + 1, h1, h2 => exact sn i (by simpa using h1) (by simpa using h2)
def jsV : List FE → Str → FE
  | [], acc => fun env st => .ok (.str acc) st
  | f :: fs, acc => fun env st => (f env st).bind fun d s => match d with
    | .str y => if (acc ++ y).length ≤ sizeLine then jsV fs (acc ++ y) env s else .no
    | _ => .no
theorem snd_js : ∀ (ts : List TE) (gs : List FE) (hl : ts.length = gs.length) (sn : ∀ (i : Nat) (h : i < ts.length) (h' : i < gs.length), SndE K E ts[i] gs[i]) (acc : Str), SndE K E (fun σ H Q => tJs ts acc σ H fun out H1 => Q (.str out) H1) (jsV gs acc)
  | [], [], _, _, acc => fun B ρ F env st σ H Q S hq => hq.ret S (.inl (.str _))
  | t :: ts, g :: gs, hl, sn, acc => fun B ρ F env st σ H Q S hq => sn 0 (by simp) (by simp) B ρ F env st σ H _ S (Out.bind hq fun d s1 ρ1 F1 H1 v S1 l1 e1 r1 h1 => by
    split at h1
    · cases r1.str
      split at h1
      · rename_i hc
        exact ⟨_, rfl, hc, snd_js ts gs (by simpa using hl) (fun i h h' => sn (i + 1) (by simpa using h) (by simpa using h')) _ B ρ1 F1 env s1 σ H1 Q S1 h1⟩
      · exact h1.elim
    · exact h1.elim)
  | [], _ :: _, hl, _, _ => by simp at hl
  | _ :: _, [], hl, _, _ => by simp at hl
theorem de_joined {v1 v2 : Expr} {rest : List Expr} {gs : List FE} (h : DJ Γ (v1 :: v2 :: rest) gs) : DE Γ (.JoinedStr (v1 :: v2 :: rest) pos) (jsV gs Str.empty) := by
  obtain ⟨ts, pj, hl, sn⟩ := h.run
  exact ⟨_, fun X m => pe_joined (pj X m), snd_js ts gs hl sn _⟩
/-- str(int), int(text) -/
def oStrI : OC := fun _ st ds => match ds with
  | [.int i] => if i.natAbs.log2 < 1920 then .ok (.str (toString i)) st else .no
  | _ => .no
theorem dc_strI : DC Γ (.type "str") oStrI := ⟨_, fun X m => call_str_int, fun B ρ F env st σ H Q vs ds S r h => by
  unfold oStrI at h
  split at h
  · obtain ⟨v, rfl, r1⟩ := r.one
    have r2 := r1.rp rfl
    cases r2
    split at h
    · rename_i hc
      exact ⟨_, rfl, hc, h.ret S (.inl (.str _))⟩
    · exact h.elim
  · exact h.elim⟩
def oIntS : OC := fun _ st ds => match ds with
  | [.str a] => match PySem.intText? a with
    | some n => if a.length ≤ 640 then .ok (.int n) st else .no
    | none => .no
  | _ => .no
theorem dc_intS : DC Γ (.type "int") oIntS := ⟨_, fun X m => call_int_str, fun B ρ F env st σ H Q vs ds S r h => by
  unfold oIntS at h
  split at h
  · obtain ⟨v, rfl, r1⟩ := r.one
    cases r1.str
    split at h
    · rename_i hn
      split at h
      · rename_i hc
        exact ⟨_, _, rfl, hn, hc, h.ret S (.inl (.int _))⟩
      · exact h.elim
    · exact h.elim
  · exact h.elim⟩
end
end DL
/-! enumerate from one on -/
namespace L2
open PySem PySem.Spec PyProof.Rows
def Ite1 (K : PySem.W.Frag) (a : Addr) : It :=
  ⟨fun i H => ∃ (xs : List V) (x : V), SqL K H a xs ∧ xs[i]? = some x, fun i H v H' => ∃ T x, v = .ref T ∧ H T = none ∧ H' = upd H T (.tup [.int ((i + 1 : Nat) : Int), x]) ∧ ∀ xs, SqL K H a xs → xs[i]? = some x, fun i H => ∃ xs : List V, SqL K H a xs ∧ xs.length ≤ i⟩
theorem turn_enum1 {P : Program} {w : World} {K : PySem.W.Frag} {elts : List Expr} {kk : Nat} {tpos : Pos} (a e it : Addr) :
    Turn P w K (.Tuple elts kk tpos) (Ite1 K a) [e, it] e (fun i h => (∃ old, IsEnum h e it ((i + 1 : Nat) : Int) old) ∧ h.IsListIter it a i ∧ e ≠ it) where
  mem := by simp
  obj := fun i h st b hb => by
    obtain ⟨⟨old, he⟩, ⟨o, ho, hc, hd⟩, _⟩ := st
    have e' : b = e ∨ b = it := by simpa using hb
    rcases e' with z | z
    · rw [z]; exact ⟨_, he, fun v q => nomatch q⟩
    · rw [z]; exact ⟨o, ho, fun v q => by rw [hd] at q; cases q⟩
  keep := fun i h h' st k => let ⟨⟨old, he⟩, hi, hne⟩ := st; ⟨⟨old, k e (by simp) _ he⟩, hi.at fun o q => k it (by simp) o q, hne⟩
  item := by
    intro X hP hw hK hc i pins s σ H E I hf st hg
    subst hP hw hK
    obtain ⟨⟨old, he⟩, hit, hne⟩ := st
    obtain ⟨xs, x, hq, hx⟩ := hg
    obtain ⟨its, rv, p, hz⟩ := I.list hq
    obtain ⟨u, hu, ru⟩ := rv.get hx
    have hel : e < s.heap.objs.size := Heap.lt_size he
    have hil : it < s.heap.objs.size := by obtain ⟨_, q, _⟩ := hit; exact Heap.lt_size q
    have hai : a ≠ it := fun z => by
      obtain ⟨o1, g1, g2, _⟩ := p.isList
      obtain ⟨o2, g3, g4, _⟩ := hit
      rw [z, g3] at g1; cases g1; rw [g4] at g2; simp at g2
    have hae : a ≠ e := fun z => by
      obtain ⟨o1, g1, g2, _⟩ := p.isList
      rw [z, he] at g1; cases g1; simp at g2
    have hin : i < its.toArray.size := by
      have := List.getElem?_eq_some_iff.mp hu
      obtain ⟨h, _⟩ := this
      simpa using h
    refine wpAny_pyNext_enum_itemC (Draws.list (A := X.A.in1) (by exact I.ok.hd hc) it a hai its.toArray) he ⟨hit, p.isList⟩ hin hne (by simpa using ⟨hne, Ne.symm hae⟩) fun y h' tk hy ho hit' hT hsz hk => ?_
    have hy : its.toArray[i]? = some y := hy
    have e1 : y = u := by
      have h1 : its[i]? = some y := by simpa using hy
      rw [hu] at h1; exact (Option.some.inj h1).symm
    subst e1
    refine ⟨_, rfl, wpAny_letOwnedTupleGo_enum (s := { s with heap := h', toks := tk + 1 }) ho fun h'' he' sb => ?_⟩
    have hT2 : h''.get? s.heap.objs.size = some { cls := .type "tuple", data := .seq #[.int ((i + 1 : Nat) : Int) tk, y] } := (sb.2 _ (Nat.ne_of_gt hel)).trans hT
    have new : ObjOk X.prog X.w (upd H s.heap.objs.size (.tup [.int ((i + 1 : Nat) : Int), x])) h'' s.heap.objs.size (.tup [.int ((i + 1 : Nat) : Int), x]) :=
      ⟨by show 2 ≤ sizeLine; decide, [.int ((i + 1 : Nat) : Int) tk, y], .cons ⟨_, rfl⟩ (.cons ru .nil), ⟨_, hT2, rfl, _, rfl⟩⟩
    have I1 : Inv X pins σ (upd H s.heap.objs.size (.tup [.int ((i + 1 : Nat) : Int), x])) { s with heap := h'', toks := tk + 1 } :=
      I.turnedNew (ch := [e, it]) (fun b ob hb q => (sb.2 b (fun z => hb (by simp [z]))).trans (hk b ob (fun z => hb (by simp [z])) (fun z => hb (by simp [z])) q)) hf (Nat.le_refl _) new
    refine ⟨.ref s.heap.objs.size, _, I1, rfl, ⟨_, x, rfl, I.hok.fresh (Nat.le_refl _), rfl, fun ys hy => by rw [I.list_inj hy hq]; exact hx⟩, ⟨⟨y, ?_⟩, hit'.1.at fun o q => (sb.2 it (Ne.symm hne)).trans q, hne⟩, fun b hb => ?_⟩
    · have e1 : ((i + 1 + 1 : Nat) : Int) = ((i + 1 : Nat) : Int) + 1 := by omega
      rw [e1]; exact he'
    · have hb' : b < s.heap.objs.size := by
        have e' : b = e ∨ b = it := by simpa using hb
        rcases e' with z | z
        · rw [z]; exact hel
        · rw [z]; exact hil
      rw [upd_ne (Nat.ne_of_lt hb')]
      exact (hf b hb).1
  done := by
    intro X hP hw hK hc i pins s σ H E I hf st hg
    subst hP hw hK
    obtain ⟨⟨old, he⟩, hit, hne⟩ := st
    obtain ⟨xs, hq, hx⟩ := hg
    obtain ⟨its, rv, p, hz⟩ := I.list hq
    obtain ⟨f0, f1, f2, f3, f4, f5⟩ := hf it (by simp)
    have hl := rv.length
    have hai : a ≠ it := fun z => by
      obtain ⟨o1, g1, g2, _⟩ := p.isList
      obtain ⟨o2, g3, g4, _⟩ := hit
      rw [z, g3] at g1; cases g1; rw [g4] at g2; simp at g2
    have D : Draws X.prog X.w X.A.in1 it [it, a] 0 (fun _ _ => False) (fun _ h => h.IsListIter it a i ∧ h.IsList a its.toArray) :=
      { live := fun _ _ st => let ⟨o, ho, _⟩ := st.1; ⟨o, ho⟩
        frame := fun _ _ _ st hk => ⟨st.1.at fun o e => hk it (by simp) o e, st.2.at fun o e => hk a (by simp) o e⟩
        item := fun j s Q E hj => absurd hj (Nat.not_lt_zero j)
        done := fun s Q E st hE => wpAny_nextOf_list_end (by exact I.ok.hd hc) st.1 st.2 (by simp; omega) hE }
    exact wpAny_pyNext_enum_endD D he ⟨hit, p.isList⟩ fun h' eb => ⟨rfl, I.turned (t' := s.toks) (fun b o hb q => eb b o hb q) f0 f1 f3 f4 f5⟩
  self := fun A i s Q E st h => let ⟨⟨_, he⟩, _⟩ := st; wpAny_pyIter_enum he h
def iEnum1 (K : PySem.W.Frag) (ta : TA) : TI := fun σ H R => ta σ H fun vs H1 => ∃ a xs, vs = [.ref a, .int 1] ∧ SqL K H1 a xs ∧ R (Ite1 K a) H1
theorem pi_enum1 {X : Cx} {e e2 : Expr} {ta : TA} {p pos tpos : Pos} {elts : List Expr} {kk : Nat} (hg : Gl X "enumerate") (hm : X.mg "enumerate" = none) (ha : PA X [e, e2] ta) (hs : starEach [e, e2] X.env = (false, eval e X.env) :: starEach [e2] X.env := by rfl) (hpl : (backTo pos (starEach [e2] X.env)).any (·.1) = false := by rfl) :
    PI X (.Tuple elts kk tpos) (.Call (.Name "enumerate" p) [e, e2] [] pos) (iEnum1 X.K ta) := by
  refine ⟨fun pins s σ H R I h => Call_ (ld_blt I hg hm boot_enumerate (PyProof.Rows.callWith_type1 (thn (ha.run pos pins s σ H _ I h) fun us s1 ⟨vs, H1, I1, r1, q1⟩ => ?_) hs hpl))⟩
  obtain ⟨a, xs, ex, hq, q⟩ := q1
  subst ex
  obtain ⟨u, w, rfl, ru, rw'⟩ := r1.two
  cases ru
  obtain ⟨t, rfl⟩ := rw'
  obtain ⟨its, rv, pl, _⟩ := I1.list hq
  refine enum_begins (begins_list a its.toArray) pl.isList (by omega) (by omega) fun h' he ho hsz hk => wpAny_pyIter_enum he ?_
  refine ⟨s1.heap.objs.size + 1, [s1.heap.objs.size + 1, s1.heap.objs.size], _, _, H1, rfl, I1.kept (t' := s1.toks) hk, turn_enum1 a (s1.heap.objs.size + 1) s1.heap.objs.size, ⟨⟨.none, he⟩, ⟨_, ho, rfl, rfl⟩, Nat.succ_ne_self _⟩, fun b hb => ?_, q⟩
  have hle : s1.heap.objs.size ≤ b := by
    rcases (by simpa using hb : b = s1.heap.objs.size + 1 ∨ b = s1.heap.objs.size) with z | z
    · rw [z]; exact Nat.le_add_right _ _
    · rw [z]; exact Nat.le_refl _
  exact I1.fpOk hle (I1.hok.fresh hle)
theorem walk_enum1 {K : PySem.W.Frag} {a : Addr} {xs : List V} : Walk (Ite1 K a) xs.length (fun H => SqL K H a xs) (YPair (fun i => some (.int ((i + 1 : Nat) : Int))) (fun i => xs[i]?)) := by
  refine ⟨fun i _ hi q => ⟨xs, xs[i], q, by simp [hi]⟩, fun _ q => ⟨xs, q, Nat.le_refl _⟩, fun i H v H' _ q y => ?_⟩
  obtain ⟨T, x, h1, h2, h3, h4⟩ := y
  exact ⟨T, .int ((i + 1 : Nat) : Int), x, h1, h2, h3, rfl, h4 xs q⟩
end L2
namespace DL
open PySem PySem.Spec PyProof.Rows L2
section
variable {Γ : Ga} {K : PySem.W.Frag} {E : WX}
variable {a b tg : Expr} {fa fb : FE} {pos p p2 tpos : Pos} {elts : List Expr} {kk j : Nat}
variable {ρ : List Addr} {F : Hp}
theorem iter_enum1 {a : Addr} {vs : List V} {ds : List D} (h : SqL K F a vs) (r : RpL K ρ F vs ds) : Iter K ρ F (Ite1 K a) (enumFrom 1 ds) := by
  have w := walk_enum1 (K := K) (a := a) (xs := vs)
  rw [r.length] at w
  refine ⟨_, _, by rw [enumFrom_length]; exact w, fun H e => sqL_mono e h, fun i H x H' y => ?_⟩
  obtain ⟨T, x1, x2, h1, h2, h3, h4, h5⟩ := y
  cases h4
  obtain ⟨d, g1, g2⟩ := r.get' h5
  exact ⟨.tup [.int ((1 + i : Nat) : Int), d], by rw [enumFrom_get, g1]; rfl, .inr (.inl ⟨T, _, _, h1, h2, h3, rfl, by rw [Nat.add_comm 1 i]; exact .cons (.int _) (.cons g2 .nil)⟩)⟩
def itEn1 (f : FE) : FI := fun env st => (itL f env st).bind fun ds s => .ok (enumFrom 1 ds) s
theorem di_enum1 (h : DE Γ a fa) (hg : Γ.sc.names.lookup ("enumerate" : Str) = some .globalImplicit) (hm : Γ.mg "enumerate" = none) (hs : ∀ env : PySem.Env, starEach [a, .Constant (.int 1) j p2] env = (false, eval a env) :: starEach [.Constant (.int 1) j p2] env := by intro _; rfl) (hpl : ∀ env : PySem.Env, (backTo pos (starEach [.Constant (.int 1) j p2] env)).any (·.1) = false := by intro _; rfl) : DI Γ (.Tuple elts kk tpos) (.Call (.Name "enumerate" p) [a, .Constant (.int 1) j p2] [] pos) (itEn1 fa) := by
  obtain ⟨t, pp, q⟩ := h.run
  refine ⟨iEnum1 Γ.K (tCons t (tCons (tC (.int 1)) tNil)), fun X m => ?_, fun B ρ F env st σ H R S h => ?_⟩
  · have h := pi_enum1 (pos := pos) (p := p) (tpos := tpos) (elts := elts) (kk := kk) (show X.env.kindOf ("enumerate" : Str) = _ by unfold Env.kindOf; rw [m.sc]; exact hg) (by rw [m.mg]; exact hm) (pa_cons (pp X m) (pa_cons pe_int pa_nil (by rfl)) (hs X.env)) (hs X.env) (hpl X.env)
    rw [m.K] at h
    exact h
  · unfold itEn1 at h
    rw [itL_eq] at h
    refine q B ρ F env st σ H _ S (Out.bind h fun d s1 ρ1 F1 H1 v S1 l1 e1 r1 h1 => ?_)
    split at h1
    · have r2 := r1.rp rfl
      cases r2 with
      | lst g1 g2 => exact ⟨_, _, rfl, .inl (.inl (S1.so.sub _ _ g1)), h1.ret S1 (iter_enum1 (.inl (.inl g1)) g2)⟩
    · have r2 := r1.rp rfl
      cases r2 with
      | scr g1 g2 => exact ⟨_, _, rfl, sqL_mono S1.so.sub g1, h1.ret S1 (iter_enum1 g1 g2)⟩
    · exact h1.elim
end
end DL
namespace DL
open PySem PySem.Spec PyProof.Rows L2
section
variable {env : Env} {st s : Store} {f g : FE} {A : FA} {xs : List D} {x : Str} {i : Int}
/-! ### texts -/
theorem strL_map : ∀ ys : List Str, strL (ys.map D.str) = some ys
  | [] => rfl
  | y :: r => by rw [List.map_cons, strL, strL_map r]; rfl
def join3 (k : Env × Str) (e : D) (s : Store) : Res D := match seqA k.1 s e with
  | some ds => match strL ds with
    | some ys => if (ys.map (·.length)).sum + ys.length * k.2.length ≤ 16777216 then .ok (.str (Txt.join k.2 ys)) s else .no
    | none => .no
  | none => .no
def join1 (k : FE × Env) (d : D) (s : Store) : Res D := match d with
  | .str a => (k.1 k.2 s).go (k.2, a) join3
  | _ => .no
@[simp] theorem ev_joinV : joinV f g env st = (f env st).go (g, env) join1 := by
  unfold joinV Res.go
  cases f env st with
  | ok d s => cases d <;> rfl
  | _ => rfl
@[simp] theorem ev_join1 : join1 (g, env) (.str x) s = (g env s).go (env, x) join3 := id rfl
theorem ev_join3 {ys : List Str} (h : (ys.map (·.length)).sum + ys.length * x.length ≤ 16777216) : join3 (env, x) (.lst (ys.map .str)) s = .ok (.str (Txt.join x ys)) s := by
  have e : seqA env s (.lst (ys.map .str)) = some (ys.map .str) := rfl
  unfold join3
  rw [e]
  simp only [strL_map]
  exact if_pos h
def split2 (a : Str) (e : D) (s : Store) : Res (List D) := match e with
  | .str b => if (b.length == 0) = false ∧ a.length + 2 ≤ sizeLine then .ok ((Txt.split a b).map .str) s else .no
  | _ => .no
def split1 (k : FE × Env) (d : D) (s : Store) : Res (List D) := match d with
  | .str a => (k.1 k.2 s).go a split2
  | _ => .no
@[simp] theorem ev_splitN : splitN f g env st = (f env st).go (g, env) split1 := by
  unfold splitN Res.go
  cases f env st with
  | ok d s => cases d <;> rfl
  | _ => rfl
@[simp] theorem ev_split1 : split1 (g, env) (.str x) s = (g env s).go x split2 := id rfl
theorem ev_split2 {b : Str} (h1 : (b.length == 0) = false) (h2 : x.length ≤ 90000) : split2 x (.str b) s = .ok ((Txt.split x b).map .str) s := if_pos ⟨h1, small_line (by omega)⟩
def fmt1 (_ : Unit) (d : D) (s : Store) : Res D := match d with
  | .str y => if y.length ≤ sizeLine then .ok (.str y) s else .no
  | .int i => if i.natAbs.log2 < 1920 then .ok (.str (toString i)) s else .no
  | _ => .no
@[simp] theorem ev_fmtV : fmtV f env st = (f env st).go () fmt1 := id rfl
theorem ev_fmtS (h : x.length ≤ 100000) : fmt1 () (.str x) s = .ok (.str x) s := if_pos (small_line h)
theorem ev_fmtI (h : i.natAbs.log2 < 1920) : fmt1 () (.int i) s = .ok (.str (toString i)) s := if_pos h
def js1 (k : List FE × Str × Env) (d : D) (s : Store) : Res D := match d with
  | .str y => if (k.2.1 ++ y).length ≤ sizeLine then jsV k.1 (k.2.1 ++ y) k.2.2 s else .no
  | _ => .no
@[simp] theorem ev_jsN {acc : Str} : jsV [] acc env st = .ok (.str acc) st := id rfl
@[simp] theorem ev_jsC {gs : List FE} {acc : Str} : jsV (f :: gs) acc env st = (f env st).go (gs, acc, env) js1 := id rfl
theorem ev_js1 {gs : List FE} {acc y : Str} (h : (acc ++ y).length ≤ 100000) : js1 (gs, acc, env) (.str y) s = jsV gs (acc ++ y) env s := if_pos (small_line h)
theorem ev_strI (h : i.natAbs.log2 < 1920) : oStrI env st [.int i] = .ok (.str (toString i)) st := if_pos h
theorem ev_intS {n : Int} (h : PySem.intText? x = some n) (hl : x.length ≤ 640) : oIntS env st [.str x] = .ok (.int n) st := by
  unfold oIntS
  simp only [h]
  exact if_pos hl
def enO1 (_ : Unit) (d : D) (s : Store) : Res (List D) := match d with
  | .lst ds => .ok (enumFrom 1 ds) s
  | .scr ds => .ok (enumFrom 1 ds) s
  | _ => .no
@[simp] theorem ev_itEn1 : itEn1 f env st = (f env st).go () enO1 := by
  unfold itEn1
  rw [itL_eq]
  unfold Res.go enO1
  rfl
@[simp] theorem ev_enO1 : enO1 () (.lst xs) s = .ok (enumFrom 1 xs) s := id rfl
theorem flatL_strs : ∀ ws : List Str, flatL (ws.map D.str) = some (ws.map V.str)
  | [] => rfl
  | w :: r => by rw [List.map_cons, flatL, flatL_strs r]; rfl
theorem inV_strs {w : Str} : ∀ ws : List Str, inV (.str w) (ws.map V.str) = decide (w ∈ ws)
  | [] => by simp [inV]
  | y :: r => by
    have ih := inV_strs (w := w) r
    unfold inV at ih ⊢
    rw [List.map_cons, List.any_cons, ih]
    have e : eqV (.str y) (.str w) = decide (y = w) := by
      show (y == w) = _
      by_cases h : y = w
      · subst h; simp
      · simp [h]
    rw [e]
    by_cases h : y = w
    · subst h; simp
    · have h2 : ¬ w = y := fun z => h z.symm
      simp [h, h2]
theorem in_strs {w : Str} {ws : List Str} {neg : Bool} : oInA neg env st (.str w) (.lst (ws.map .str)) = .ok (.bl (if neg = true then !decide (w ∈ ws) else decide (w ∈ ws))) st := by
  have e1 : flatD (.str w) = some (.str w) := rfl
  have e2 : seqA env st (.lst (ws.map D.str)) = some (ws.map D.str) := rfl
  unfold oInA
  rw [e1, e2]
  simp only [flatL_strs, inV_strs]
end
end DL
namespace HW
open PySem PySem.Spec PyProof.Rows L2 DL
variable {st : Store} {env : DL.Env} {a b : Str}
theorem eq_strs (ha : PyData.strOk a = true) (hb : PyData.strOk b = true) : oEq env st (.str a) (.str b) = .ok (.bl (decide (a = b))) st := by
  obtain ⟨p, h1, h2, h3⟩ := pyT_plain (env := env) (st := st) (n := 1) (d := .str a) (by simpa using ha) (by omega)
  obtain ⟨q, k1, k2, k3⟩ := pyT_plain (env := env) (st := st) (n := 1) (d := .str b) (by simpa using hb) (by omega)
  have e1 : pyT env st (.str a) = some (.str a) := rfl
  have e2 : pyT env st (.str b) = some (.str b) := rfl
  rw [e1] at h1
  rw [e2] at k1
  cases h1; cases k1
  unfold oEq cmpD
  rw [e1, e2]
  simp only [h2, k2, and_self, if_true]
  by_cases h : a = b <;> simp [PyData.eqv, h]
theorem ne_strs (ha : PyData.strOk a = true) (hb : PyData.strOk b = true) : oNe env st (.str a) (.str b) = .ok (.bl (!decide (a = b))) st := by
  obtain ⟨p, h1, h2, h3⟩ := pyT_plain (env := env) (st := st) (n := 1) (d := .str a) (by simpa using ha) (by omega)
  obtain ⟨q, k1, k2, k3⟩ := pyT_plain (env := env) (st := st) (n := 1) (d := .str b) (by simpa using hb) (by omega)
  have e1 : pyT env st (.str a) = some (.str a) := rfl
  have e2 : pyT env st (.str b) = some (.str b) := rfl
  rw [e1] at h1
  rw [e2] at k1
  cases h1; cases k1
  unfold oNe cmpD
  rw [e1, e2]
  simp only [h2, k2, and_self, if_true]
  by_cases h : a = b <;> simp [PyData.eqv, h]
/-- heads of lines -/
theorem eq_head (ha : PyData.strOk a = true) (hb : PyData.strOk b = true) : oEq env st (.lst [.str a]) (.lst [.str b]) = .ok (.bl (decide (a = b))) st := by
  obtain ⟨p, h1, h2, h3⟩ := pyT_plain (env := env) (st := st) (n := 2) (d := .lst [.str a]) (by simpa using ha) (by omega)
  obtain ⟨q, k1, k2, k3⟩ := pyT_plain (env := env) (st := st) (n := 2) (d := .lst [.str b]) (by simpa using hb) (by omega)
  have e1 : pyT env st (.lst [.str a]) = some (.list [.str a]) := rfl
  have e2 : pyT env st (.lst [.str b]) = some (.list [.str b]) := rfl
  rw [e1] at h1
  rw [e2] at k1
  cases h1; cases k1
  unfold oEq cmpD
  rw [e1, e2]
  simp only [h2, k2, and_self, if_true]
  by_cases h : a = b <;> simp [PyData.eqv, PyData.eqvAll, h]
end HW
/-! a text times a number; x.replace(" ", room), where room was made by " " * k just before: the tokens are kept apart -/
namespace DL
open PySem PySem.Spec PyProof.Rows L2
section
variable {X : Cx} {pins : List (Addr × Obj)} {σ : L2.St} {H : Hp} {s : Shared}
/-- what a plain local holds, as it is -/
def Raw (X : Cx) (x : Str) (u : Value) (h : Heap) : Prop := ∃ m, h.Ns X.env.locals m ∧ m x = some u
theorem inv_local {i : Nat} {x : Str} {v : V} {u : Value} {m : Str → Option Value} {h' : Heap} {t' : Nat} (I : Inv X pins σ H s) (hN : X.N.Nodup) (hi : X.N[i]? = some x) (hk : X.env.scope.names.lookup x = some .local) (r : RelV v u)
    (hl : ∀ (j : Nat) (y : Str) (w : V), X.N[j]? = some y → σ[j]? = some (some w) → Vis X.env.scope y → ∃ z, RelV w z ∧ Look X.env s.heap m y z)
    (hn' : h'.Ns X.env.locals (fun y => if y = x then some u else m y)) (hs : Heap.SameBut X.env.locals s.heap h') : Inv X pins (σ.set i (some v)) H { s with heap := h', toks := t' } := by
  have hlt : i < σ.length := by rw [I.len]; exact (List.getElem?_eq_some_iff.mp hi).1
  have old : ∀ {b : Addr} {o : Obj}, X.s_0.heap.get? b = some o → h'.get? b = s.heap.get? b := fun {b o} e =>
    hs.2 b fun q => absurd (Heap.lt_size e) (by rw [q]; exact Nat.not_lt.mpr I.ok.above)
  have nl : ∀ {b : Addr} {o : HO}, H b = some o → b ≠ X.env.locals := fun {b o} e q => by
    rw [q, I.free] at e; cases e
  exact {
    ok := I.ok, os := I.os, bare := I.bare, free := I.free, freeC := I.freeC
    base := {
      keep := fun b o e n hb hx => by
        show h'.get? b = some o
        rw [old e]
        exact I.base.keep b o e n hb hx
      slot := fun b o e n hb hx => by
        obtain ⟨sl, q⟩ := I.base.slot b o e n hb hx
        refine ⟨sl, ?_⟩
        show h'.get? b = _
        rw [old e]
        exact q
      free := I.base.free
      there := fun b o e hx => by
        obtain ⟨o', q⟩ := I.base.there b o e hx
        refine ⟨o', ?_⟩
        show h'.get? b = _
        rw [old e]
        exact q
      tups := I.base.tups, frzs := I.base.frzs, tbls := I.base.tbls }
    loc := ⟨_, hn', fun j y w g1 g2 g3 => by
      by_cases e : j = i
      · subst e
        rw [hi] at g1
        cases g1
        rw [List.getElem?_set_self hlt] at g2
        cases g2
        exact ⟨u, r, .inl ⟨hk, if_pos rfl⟩⟩
      · rw [List.getElem?_set_ne (Ne.symm e)] at g2
        have ne : y ≠ x := fun q => e (nodup_ix hN g1 (q ▸ hi))
        obtain ⟨z, g4, g5⟩ := hl j y w g1 g2 g3
        refine ⟨z, g4, ?_⟩
        rcases g5 with ⟨g5, g6⟩ | ⟨g5, c, g6, g7⟩
        · exact .inl ⟨g5, (if_neg ne).trans g6⟩
        · exact .inr ⟨g5, c, g6, g7.sameBut hs (I.cne y c g6)⟩⟩
    cell := fun y c e => by
      obtain ⟨w, q⟩ := I.cell y c e
      exact ⟨w, q.sameBut hs (I.cne y c e)⟩
    pin := fun p hp => by
      obtain ⟨g1, g2, g3, g4⟩ := I.pin p hp
      refine ⟨?_, g2, g3, g4⟩
      show h'.get? p.1 = _
      rw [hs.2 p.1 g3]
      exact g1
    hok := fun b ob e => (I.hok b ob e).stay (fun c w hc q => by
      rw [hs.2 c (by
        rcases hc with hc | hc
        · exact hc ▸ nl e
        · exact nl hc)]
      exact q) (fun _ q => q) (fun _ _ q => q)
    len := by simpa using I.len }
theorem store_raw {M : Model} {A : Around} {E : Value → Shared → Prop} {i : Nat} {x : Str} {v : V} {u : Value} (I : Inv X pins σ H s) (hN : X.N.Nodup) (hi : X.N[i]? = some x) (hk : X.env.scope.names.lookup x = some .local) (r : RelV v u) :
    wpAny M A (storeName X.env x u) (fun _ s2 => Inv X pins (σ.set i (some v)) H s2 ∧ s.toks + 1 ≤ s2.toks ∧ Raw X x u s2.heap) E s := by
  obtain ⟨m, hn, hl⟩ := I.loc
  have hcls : (X.env.scope.kind == .class || (X.env.scope.kind == .module && X.env.locals != X.env.globals)) = false := by rw [I.ok.kind]; rfl
  exact wpAny_storeName_local hk hn (fun h' hn' hs => ⟨inv_local I hN hi hk r hl hn' hs, Nat.le_refl _, _, hn', by simp⟩) hcls
end
section
variable {Γ : Ga} {K : PySem.W.Frag} {E : WX}
/-! ### once a token is out -/
structure DST (Γ : Ga) (s : Stmt) (f : FS) : Prop where
  run : ∃ t, (∀ X, Mt Γ X → PST X s t) ∧ SndS Γ.K Γ.E t f
structure DSsT (Γ : Ga) (s : List Stmt) (f : FS) : Prop where
  run : ∃ t, (∀ X, Mt Γ X → PSsT X s t) ∧ SndS Γ.K Γ.E t f
variable {s : Stmt} {ss : List Stmt} {f g : FS}
theorem dssT_of (h : DSs Γ ss f) : DSsT Γ ss f := by
  obtain ⟨t, p, q⟩ := h.run
  exact ⟨t, fun X m => PSsT.of (p X m), q⟩
theorem dssT_cons (h : DST Γ s f) (h' : DSsT Γ ss g) : DSsT Γ (s :: ss) (seqS f g) := by
  obtain ⟨t, p, q⟩ := h.run
  obtain ⟨u, p', q'⟩ := h'.run
  exact ⟨_, fun X m => psst_cons (p X m) (p' X m), fun B ρ F env st σ H D S k => q B ρ F env st σ H _ S (OutS.seq q' k)⟩
/-- name = a new list; behind it a token is out -/
theorem dss_ownT {i : Nat} {x : Str} {a : Expr} {fa : FN} {pos' pos : Pos} (h : DN Γ a fa) (h' : DSsT Γ ss g) (hi : Γ.N[i]? = some x := by rfl) (hN : Γ.N.Nodup := by assumption) (hk : Γ.sc.names.lookup x = some .local := by rfl)
    (hs : ∀ env : PySem.Env, env.scope = Γ.sc → swapsWith a (some (.Name x pos')) pos.line env = pure false := by intro env h; cases env; cases h; rfl) :
    DSs Γ (.Assign [.Name x pos'] a pos :: ss) (seqS (ownS i fa) g) := by
  obtain ⟨t, p, q⟩ := h.run
  obtain ⟨u, p', q'⟩ := h'.run
  refine ⟨tSeq (tAsg t (gName i)) u, fun X m => ⟨fun pins s σ H D I k => ?_⟩, fun B ρ F env st σ H D S k => ?_⟩
  · refine wpAny_execs_cons (wpAny_Assign_Name (thn ((p X m).run pins s σ H _ I k) fun v s1 ⟨y, H1, I1, r1, q1⟩ => ?_) (hs X.env m.sc))
    refine thn (store_raw (i := i) I1 (by rw [m.N]; exact hN) (by rw [m.N]; exact hi) (by rw [m.sc]; exact hk) r1) fun _ s2 ⟨I2, hk2, _⟩ => ?_
    exact p' X m pins s2 _ H1 D (by omega) I2 q1
  · refine q B ρ F env st σ H _ S ?_
    unfold seqS ownS at k
    cases hr : fa env st with
    | no => rw [hr] at k; exact k
    | err c fs s => rw [hr] at k; exact fun ρ1 F1 H1 od S1 l e x => k ρ1 F1 σ H1 od S1 l e x
    | ok ds s1 =>
      rw [hr] at k
      intro ρ1 F1 H1 b vs S1 l1 e1 g1 g2 g3 g4 g5 r1
      have S2 := S1.setOwn (s := .ol ds) (i := i) g4 g5 (fun hlt => ⟨b, vs, by unfold OwnAt; rw [List.getElem?_set_self hlt], g2, g3, g1, r1⟩) rfl
      exact q' B ρ1 F1 _ s1 _ H1 D S2 (OutS.on (show OutS Γ.K Γ.E B ρ F D (g (env.set i (.ol ds)) s1) from k) l1 e1)
end
section
theorem tk {α : Type} {t : Sem α} {Q : α → Shared → Prop} {M : Model} {A : Around} {E : Value → Shared → Prop} {s : Shared} {n : Nat} (hn : n ≤ s.toks) (h : wpAny M A t Q E s) : wpAny M A t (fun a s' => n ≤ s'.toks ∧ Q a s') E s :=
  wpAny_mono (wpAny_toks_of hn h) (fun _ _ x => x) fun _ _ x => x.2
variable {X : Cx}
/-- a loop whose body wants that a token is out -/
theorem pst_loop {tg iter : Expr} {body : List Stmt} {wi : TI} {g : TG} {tb : TS} {pos : Pos} (hp : PassesOwn (model X.prog X.w) X.A X.env X.xe) (hc : X.calm = true) (hi : PI X tg iter wi) (hg : PG X tg g) (hb : PSsT X body tb)
    (hs : ∀ x, foldedSetIterable iter X.env x = pure x) : PST X (.For tg iter body [] pos) (tFor wi g tb) := by
  intro pins s σ H D h0 I h
  refine wpAny_For (thn (tk h0 (hi.run pins s σ H _ I h)) fun v s1 ⟨k1, w1⟩ => thn (tk k1 w1) fun itv s2 ⟨k2, w2⟩ => ?_) hs
  obtain ⟨a, fs, step, J, H2, rfl, I2, T, q2, fr2, W, ⟨n0, w0⟩, turn⟩ := w2
  have fpk : ∀ {G : Hp}, (∀ b ∈ fs, G b = none) → ∀ b ∈ fs, FpOk X pins G b := fun e b hb => ⟨e b hb, (fr2 b hb).2⟩
  refine codeAny_forLoop_any (fun n s' => 1 ≤ s'.toks ∧ ∃ i τ G, Inv X pins τ G s' ∧ step i s'.heap ∧ (∀ b ∈ fs, G b = none) ∧ W i n τ G) ?_ n0 ⟨k2, 0, σ, H2, I2, q2, fun b hb => (fr2 b hb).1, w0⟩
  rintro n s3 ⟨k3, i, τ, G, I3, q3, fr3, w3⟩
  rcases turn i n τ G w3 with ⟨stop, fin⟩ | ⟨go, N, hN, nxt⟩
  · refine wpAny_passesOwn hp (thn (T.done X rfl rfl rfl hc i pins s3 τ G X.xe I3 (fpk fr3) q3 stop) fun r s4 ⟨e, I4⟩ => ?_)
    subst e
    exact wpAny_execs_nil ⟨τ, G, I4, fin⟩
  · refine wpAny_passesOwn hp (thn (tk k3 (T.item X rfl rfl rfl hc i pins s3 τ G X.xe I3 (fpk fr3) q3 go)) fun r s4 ⟨k4, u, e, w4⟩ => ?_)
    subst e
    refine wpAny_passesOwn hp (thn (tk k4 w4) fun _ s5 ⟨k5, x, G5, I5, r5, y5, q5, fr5⟩ => ?_)
    refine wpAny_passesOwn hp (thn (tk k5 (hg.run _ s5 τ G5 x u _ (I5.pinned (fpk fr5) (T.obj _ _ q5)) r5 (nxt x G5 y5))) fun _ s6 ⟨k6, τ6, G6, I6, q6⟩ => ?_)
    refine wpAny_passesOwn hp (thn (tk k6 (hb _ s6 τ6 G6 _ k6 I6 q6)) fun f s7 ⟨k7, q7⟩ => ?_)
    have more : ∀ {τ7 : L2.St} {G7 : Hp}, Inv X (pins ++ pinsAt fs s5.heap) τ7 G7 s7 → N τ7 G7 → ∃ m, m < n ∧ 1 ≤ s7.toks ∧ ∃ i τ' G', Inv X pins τ' G' s7 ∧ step i s7.heap ∧ (∀ b ∈ fs, G' b = none) ∧ W i m τ' G' := fun {τ7 G7} I7 e7 => by
      obtain ⟨m, hm, w7⟩ := hN τ7 G7 e7
      refine ⟨m, hm, k7, i + 1, τ7, G7, I7.unpinned, T.keep _ _ _ q5 fun b hb o e => (I7.pin (b, o) ?_).1, fun b hb => ?_, w7⟩
      · exact List.mem_append_right _ (List.mem_append_right _ (mem_pinsAt hb e))
      · obtain ⟨o, e, _⟩ := T.obj _ _ q5 b hb
        exact (I7.pin (b, o) (List.mem_append_right _ (List.mem_append_right _ (mem_pinsAt hb e)))).2.1
    cases f with
    | next => obtain ⟨_, _, I7, e7⟩ := q7; exact more I7 e7
    | cont => obtain ⟨_, _, I7, e7⟩ := q7; exact more I7 e7
    | brk => obtain ⟨τ7, G7, I7, e7⟩ := q7; exact ⟨τ7, G7, I7.unpinned, e7⟩
    | ret v => obtain ⟨x7, τ7, G7, I7, r7, e7⟩ := q7; exact ⟨x7, τ7, G7, I7.unpinned, r7, e7⟩
end
section
variable {Γ : Ga} {ss : List Stmt} {pos : Pos}
theorem dsT_for {tg it : Expr} {fi : FI} {g : FG} {body : FS} (hi : DI Γ tg it fi) (hg : DG Γ tg g) (hb : DSsT Γ ss body) (hs : ∀ (env : PySem.Env) x, foldedSetIterable it env x = pure x := by intro _ _; rfl) : DST Γ (.For tg it ss [] pos) (forS fi g body) := by
  obtain ⟨w, p, q⟩ := hi.run
  obtain ⟨t, p1, q1⟩ := hg.run
  obtain ⟨u, p2, q2⟩ := hb.run
  exact ⟨_, fun X m => pst_loop m.own m.calm (p X m) (p1 X m) (p2 X m) (hs X.env), snd_for q q1 q2⟩
/-! ### a text times a number -/
def repS (c : Str) (k : Int) : Str := if k < 1 then Str.empty else if (k == 1 || c.length == 0) = true then c else ⟨(List.replicate k.toNat c.cps).foldl (· ++ ·) #[]⟩
def oMulS : O2 := fun _ st x y => match x, y with
  | .str c, .int k => if 0 ≤ k ∧ k ≤ 1000 ∧ c.length ≤ 1000 then .ok (.str (repS c k)) st else .no
  | _, _ => .no
def rMulS : R2 := fun x y H Q => ∃ c k, x = .str c ∧ y = .int k ∧ 0 ≤ k ∧ k ≤ 1000 ∧ c.length ≤ 1000 ∧ Q (.str (repS c k)) H
theorem mul_fits {c : Str} {k : Int} (h0 : 0 ≤ k) (h1 : k ≤ 1000) (hc : c.length ≤ 1000) : (decide (k < -(2 ^ 63 : Int)) || decide (k ≥ 2 ^ 63)) = false ∧ (¬ k < 1 → ¬ ((c.length : Int) > (2 ^ 63 - 1) / k)) ∧ Builtin.Str.tooLong (c.length * k.toNat) = false := by
  refine ⟨?_, fun h => ?_, ?_⟩
  · rw [decide_eq_false (by omega), decide_eq_false (by omega)]; rfl
  · have : (1000 : Int) ≤ (2 ^ 63 - 1) / k := Int.le_ediv_of_mul_le (by omega) (by omega)
    omega
  · have : c.length * k.toNat ≤ 1000 * 1000 := Nat.mul_le_mul hc (by omega)
    unfold Builtin.Str.tooLong sizeLine
    exact decide_eq_false (by omega)
theorem repS_fits {c : Str} {k : Int} (h0 : 0 ≤ k) (h1 : k ≤ 1000) (hc : c.length ≤ 1000) (h2 : ¬ k < 1) (h3 : (k == 1 || c.length == 0) = false) : (⟨(List.replicate k.toNat c.cps).foldl (· ++ ·) #[]⟩ : Str).length ≤ sizeLine := by
  exact fits_reps (mul_fits h0 h1 hc).2.2
end
end DL
/-! room, ends = " " * .., [..]; wide.append(ends[0] + line.replace(" ", room) + ends[1]) -/
namespace DL
open PySem PySem.Spec PyProof.Rows L2
section
variable {X : Cx} {pins : List (Addr × Obj)} {σ : L2.St} {H : Hp} {s : Shared}
/-- a text times a number, as it is -/
theorem mul_raw {c : Str} {k : Int} {t u : Tok} {prog : Program} {w : World} {A : Around} {E : Value → Shared → Prop} {Q : Value → Shared → Prop} (h0 : 0 ≤ k) (h1 : k ≤ 1000) (hc : c.length ≤ 1000)
    (h : ∀ t' n, (t' = t ∧ s.toks ≤ n) ∨ (t' = s.toks ∧ s.toks < n) → Q (.str (repS c k) t') { s with toks := n }) : wpAny (model prog w) A (binaryOp .Mult (.str c t) (.int k u)) Q E s := by
  have hm := mul_fits (c := c) h0 h1 hc
  refine P.mul_str hm.1 (fun a _ => hm.2.1 a) (fun _ _ => hm.2.2) ?_
  unfold repS at h
  by_cases hk : k < 1
  · rw [if_pos hk] at h ⊢
    exact ⟨by decide, h _ _ (.inr ⟨rfl, Nat.lt_succ_self _⟩)⟩
  · rw [if_neg hk] at h ⊢
    cases hz : (k == 1 || c.length == 0) with
    | true =>
      rw [hz, if_pos rfl] at h
      rw [if_pos rfl]
      exact h t s.toks (.inl ⟨rfl, Nat.le_refl _⟩)
    | false =>
      rw [hz, if_neg (by decide)] at h
      rw [if_neg (by decide)]
      exact ⟨repS_fits h0 h1 hc hk hz, h _ _ (.inr ⟨rfl, Nat.lt_succ_self _⟩)⟩
theorem op_mulS : OpR X (binaryOp .Mult) rMulS := by
  intro pins s σ H x y v u Q I rx ry h
  obtain ⟨c, k, rfl, rfl, h0, h1, hc, q⟩ := h
  obtain ⟨t, rfl⟩ := rx
  obtain ⟨t', rfl⟩ := ry
  exact mul_raw h0 h1 hc fun t2 n _ => ⟨.str (repS c k), H, I.tok n, ⟨_, rfl⟩, q⟩
theorem do_mulS {Γ : Ga} : DO Γ (binaryOp .Mult) oMulS := ⟨rMulS, fun X m => op_mulS, fun B ρ F env st σ H Q x y dx dy S rx ry h => by
  unfold oMulS at h
  split at h
  · split at h
    · rename_i c k hq
      cases rx.str; cases ry.int
      exact ⟨c, k, rfl, rfl, hq.1, hq.2.1, hq.2.2, h.ret S (.inl (.str _))⟩
    · exact h.elim
  · exact h.elim⟩
/-- the text that a local holds was made late -/
def RoomAt (X : Cx) (x R : Str) (s : Shared) : Prop := ∃ t, t ≠ 0 ∧ t < s.toks ∧ Raw X x (.str R t) s.heap
theorem room_one {i j : Nat} {x y : Str} {e0 eL : Expr} {t0 tL : TE} {px py pt pt2 cp bp pos : Pos} {kt k2 jc : Nat} {D : Str → L2.St → Hp → Prop} (hc : X.calm = true) (hN : X.N.Nodup) (hi : X.N[i]? = some x) (hj : X.N[j]? = some y) (hij : i ≠ j)
    (hx : X.env.scope.names.lookup x = some .local) (hy : X.env.scope.names.lookup y = some .local) (p0 : PE X e0 t0) (pL : PE X eL tL)
    (hse : ∀ a b : Expr, a = .BinOp (.Constant (.str " ") jc cp) .Mult e0 bp → b = eL → starEach [a, b] X.env = [(false, eval a X.env), (false, eval b X.env)])
    (hw : swappedStores [.Tuple [.Name x px, .Name y py] kt pt] (.Tuple [.BinOp (.Constant (.str " ") jc cp) .Mult e0 bp, eL] k2 pt2) X.env = pure (some [x, y]))
    (hs : swapsWithSole [.Tuple [.Name x px, .Name y py] kt pt] (.Tuple [.BinOp (.Constant (.str " ") jc cp) .Mult e0 bp, eL] k2 pt2) pos.line X.env = pure false)
    (h1 : 1 ≤ s.toks) (I : Inv X pins σ H s)
    (h : t0 σ H fun v H1 => ∃ k, v = .int k ∧ 0 ≤ k ∧ k ≤ 1000 ∧ tL σ H1 fun w H2 => D (repS " " k) ((σ.set i (some (.str (repS " " k)))).set j (some w)) H2) :
    wpAny (model X.prog X.w) X.A (exec (.Assign [.Tuple [.Name x px, .Name y py] kt pt] (.Tuple [.BinOp (.Constant (.str " ") jc cp) .Mult e0 bp, eL] k2 pt2) pos) X.env)
      (fun f s2 => f = .next ∧ ∃ R τ G, Inv X pins τ G s2 ∧ D R τ G ∧ RoomAt X x R s2) X.xe s := by
  rw [exec_Assign_arm]
  refine wpAny_bind (wpAny_standAt ?_)
  rw [hs]
  refine wpAny_bind (wpAny_pure ?_)
  rw [if_neg (by decide)]
  refine wpAny_bind (Tuple_ ?_)
  rw [hse _ _ rfl rfl]
  refine Calls.spliced_cons (wpAny_BinOp (Calls.Constant_str ?_))
  refine thn (tk (n := s.toks + 1) (Nat.le_refl _) (p0.run pins _ σ H _ (I.tok (s.toks + 1)) h)) fun b s1 ⟨m1, v, H1, I1, r1, k, e1, k0, k1, hL⟩ => ?_
  subst e1
  obtain ⟨tb, rfl⟩ := r1
  refine mul_raw k0 k1 (by decide) fun t' n hn => ?_
  have hn2 : (@Eq Nat t' s.toks ∧ s1.toks ≤ n) ∨ (@Eq Nat t' s1.toks ∧ s1.toks < n) := hn
  have ht : @Ne Nat t' 0 ∧ @LT.lt Nat _ t' n := by omega
  refine Calls.spliced_cons (thn (tk (n := n) (Nat.le_refl _) (pL.run pins _ σ H1 _ (I1.tok n) hL)) fun u2 s2 ⟨m2, w, H2, I2, r2, q2⟩ => ?_)
  refine Calls.spliced_nil ?_
  refine wpAny_newObj_type ?_ (by show 2 ≤ sizeLine; decide)
  have I3 : Inv X pins σ H2 { s2 with heap := s2.heap.push { cls := .type "tuple", data := .seq [Value.str (repS " " k) t', u2].toArray } } := I2.kept (t' := s2.toks) fun b o e => Heap.get?_push_of_some _ e
  rw [hw]
  refine wpAny_bind (wpAny_pure ?_)
  show wpAny (model X.prog X.w) X.A (do rule "assign.swapped-stores"; let xs ← unpackItems (.ref s2.heap.objs.size) 2 none; assignInOrder [fun v => bindName X.env y v, fun v => bindName X.env x v] xs.reverse; pure Flow.next) _ _ _
  refine wpAny_bind (wpAny_rule (wpAny_bind (unpackItems_tuple (items := #[Value.str (repS " " k) t', u2]) (I.ok.hd hc) (IsTup.new s2.heap _) fun h' hx' => ?_)))
  have I4 := I3.kept (h' := h') (t' := s2.toks) fun b o e => hx' b o (Nat.ne_of_lt (Heap.lt_size e)) e
  show wpAny _ _ (assignInOrder [fun v => bindName X.env y v, fun v => bindName X.env x v] [u2, Value.str (repS " " k) t'] >>= fun _ => pure Flow.next) _ _ _
  refine wpAny_bind (assignInOrder_cons (wpAny_bindName (thn (store_raw (i := j) I4 hN hj hy r2) fun _ s5 ⟨I5, m5, _⟩ => ?_)))
  refine assignInOrder_cons (wpAny_bindName (thn (store_raw (i := i) (v := .str (repS " " k)) I5 hN hi hx ⟨t', rfl⟩) fun _ s6 ⟨I6, m6, w6⟩ => assignInOrder_nil (wpAny_pure ?_)))
  rw [List.set_comm _ _ (Ne.symm hij)] at I6
  refine ⟨rfl, _, _, _, I6, q2, t', ht.1, ?_, w6⟩
  have m2' : n ≤ s2.toks := m2
  have m5' : s2.toks + 1 ≤ s5.toks := m5
  have m6' : s5.toks + 1 ≤ s6.toks := m6
  have h9 : @LT.lt Nat _ t' s6.toks := by omega
  exact h9
end
end DL
namespace DL
open PySem PySem.Spec PyProof.Rows L2
/-- no token is booked as shared in secret: read in the written part -/
def Booked (K : PySem.W.Frag) : Prop := PySem.W.nsOkIn K cStatics = true ∧ PySem.W.nsIn K cStatics sharingNotToldKey = some none
section
variable {X : Cx} {pins : List (Addr × Obj)} {σ : L2.St} {H : Hp} {s : Shared}
theorem none_booked (hb : Booked X.K) (I : Inv X pins σ H s) : NoneBooked s.heap := ⟨s.heap.nsMap cStatics, .of_isNs (PySem.W.isNs_of_in I.kIn hb.1), PySem.W.nsMap_none_of_in I.kIn hb.1 hb.2⟩
/-- an item of a list of texts, the state but for a token as it was -/
theorem item_raw {i : Nat} {x : Str} {a : Addr} {its : Array Value} {k : Int} {jc : Nat} {u : Value} {p1 cp pos : Pos} {E : Value → Shared → Prop} (hN : X.N[i]? = some x) (hv : Vis X.env.scope x) (I : Inv X pins σ H s) (hσ : σ[i]? = some (some (.ref a))) (hl : s.heap.IsList a its)
    (h0 : 0 ≤ k) (hf : k < 2 ^ 63) (hx : its[k.toNat]? = some u) (hd : (x == ("__debug__" : Str)) = false) (hcd : (x == ("__classdict__" : Str)) = false) :
    wpAny (model X.prog X.w) X.A (eval (.Subscript (.Name x p1) (.Constant (.int k) jc cp) pos) X.env) (fun w s1 => w = u ∧ ∃ n, s.toks ≤ n ∧ s1 = { s with toks := n }) E s := by
  refine thn (tk (n := s.toks) (Nat.le_refl _) (raw_ix (Q := fun w s1 => w = u ∧ ∃ n, s1 = { s with toks := n }) hN hv I hσ hl h0 hf hx (fun n => ⟨rfl, n, rfl⟩) (fun _ _ => rfl) hd hcd)) fun w s1 ⟨m, e, n, e2⟩ => ⟨e, n, ?_, e2⟩
  rw [e2] at m
  exact m
theorem room_two {ie il iw : Nat} {xr xe xl xw : Str} {ae aw : Addr} {a b z R : Str} {ws : List V} {D : Ends} {q0 q1 q2 q3 q4 q5 c0 c1 c2 apos aq cp4 b1 b2 cpos pos q6 : Pos} {j0 j1 j2 : Nat}
    (I : Inv X pins σ H s) (hb : Booked X.K) (hR : RoomAt X xr R s) (hxr : X.env.scope.names.lookup xr = some .local)
    (hNe : X.N[ie]? = some xe) (hve : Vis X.env.scope xe) (hNl : X.N[il]? = some xl) (hvl : Vis X.env.scope xl) (hNw : X.N[iw]? = some xw) (hvw : Vis X.env.scope xw)
    (hσe : σ[ie]? = some (some (.ref ae))) (hHe : H ae = some (.lst [.str a, .str b])) (hσl : σ[il]? = some (some (.str z))) (hσw : σ[iw]? = some (some (.ref aw))) (hHw : H aw = some (.lst ws)) (hws : ws.length < 1000)
    (ha : a.length ≤ 1000) (hbl : b.length ≤ 1000) (hz : z.length ≤ 1000) (hRl : R.length ≤ 1000)
    (q : D.nx σ (upd H aw (.lst (ws ++ [.str (a ++ Txt.replace z " " R ++ b)]))))
    (d0 : (xr == ("__debug__" : Str)) = false) (d1 : (xe == ("__debug__" : Str)) = false) (d1' : (xe == ("__classdict__" : Str)) = false) (d2 : (xl == ("__debug__" : Str)) = false) (d2' : (xl == ("__classdict__" : Str)) = false) (d3 : (xw == ("__debug__" : Str)) = false) (d3' : (xw == ("__classdict__" : Str)) = false)
    (l1 : (apos.endLine == cpos.line) = true) (l2 : (aq.endLine == cp4.line) = true)
    (hsw : swapsWith (.Call (.Attribute (.Name xw q0) "append" apos) [.BinOp (.BinOp (.Subscript (.Name xe q1) (.Constant (.int 0) j0 c0) q2) .Add (.Call (.Attribute (.Name xl q3) "replace" aq) [.Constant (.str " ") j1 c1, .Name xr q4] [] cp4) b1) .Add (.Subscript (.Name xe q5) (.Constant (.int 1) j2 c2) q6) b2] [] cpos) none pos.line X.env = pure false) :
    wpAny (model X.prog X.w) X.A (exec (.Expr (.Call (.Attribute (.Name xw q0) "append" apos) [.BinOp (.BinOp (.Subscript (.Name xe q1) (.Constant (.int 0) j0 c0) q2) .Add (.Call (.Attribute (.Name xl q3) "replace" aq) [.Constant (.str " ") j1 c1, .Name xr q4] [] cp4) b1) .Add (.Subscript (.Name xe q5) (.Constant (.int 1) j2 c2) q6) b2] [] cpos) pos) X.env) (SP X pins D) X.xe s := by
  obtain ⟨_, its, n, rv, _, hget⟩ := I.lstM hHe
  obtain ⟨ta, tb, rfl⟩ : ∃ ta tb, its = [Value.str a ta, .str b tb] := by
    cases rv with
    | cons r1 r2 =>
      cases r2 with
      | cons r2 r3 =>
        cases r3
        obtain ⟨ta, rfl⟩ := r1
        obtain ⟨tb, rfl⟩ := r2
        exact ⟨ta, tb, rfl⟩
  have hl : s.heap.IsList ae [Value.str a ta, .str b tb].toArray := ⟨_, hget, rfl, n, rfl⟩
  obtain ⟨t, t0, tlt, m, hn, hm⟩ := hR
  have big : (1000 + 1000) + (1000 + 1001 * 1000) + 1000 ≤ sizeLine := by decide
  have hrl := TK.replace_len z " " R
  have hrl2 : (z.length + 1) * R.length ≤ 1001 * 1000 := Nat.mul_le_mul (by omega) hRl
  refine wpAny_Expr_any (thn (Q := EP X pins σ fun _ H1 => D.nx σ H1) (PySem.Call_method1 (by rfl) (by rfl) l1 (raw_name hNw hvw I hσw (fun v r => ?_) d3 d3')) fun v s1 ⟨x, H1, I1, r1, q1⟩ => ⟨σ, H1, I1, q1⟩) I.quiet hsw
  have e : v = Value.ref aw := r
  subst e
  obtain ⟨y1, y2⟩ := tyV_is (T := "list") I r (.inl ⟨rfl, ws, .inl (.inl hHw)⟩)
  refine ⟨"list", "list.append", PySem.F.plainAttrs_list, PySem.F.slot_list_append, PySem.F.type_list_append, y1, y2, Calls.callWith_builtin rfl (Calls.evalArgs_plain (Calls.spliced_cons ?_))⟩
  refine wpAny_BinOp (wpAny_BinOp (thn (item_raw hNe hve I hσe hl (by omega) (by omega) rfl d1 d1') fun w1 s1 ⟨e1, n1, m1, e2⟩ => ?_))
  subst e1 e2
  refine PySem.Call_method2 (by rfl) (by rfl) l2 (raw_name hNl hvl (I.tok n1) hσl (fun v r => ?_) d2 d2')
  obtain ⟨tz, rfl⟩ := r
  refine ⟨"str", _, PySem.F.plainAttrs_str, PySem.F.slot_str_replace, PySem.F.type_str_replace, typeIs_str _ _ _, (fun _ e => nomatch e), Calls.callWith_builtin rfl (Calls.evalArgs_plain (Calls.spliced_cons (Calls.Constant_str ?_)))⟩
  refine Calls.spliced_cons (wpAny_Name (wpAny_loadName_local I.ok.kind hxr hn hm ?_) d0)
  refine Calls.spliced_nil ?_
  have tlt' : @LT.lt Nat _ t s.toks := tlt
  have t0' : @Ne Nat t 0 := t0
  refine PySem.SC.replaceA (u := n1) (v := t) (show @Ne Nat n1 0 by omega) t0 (show @Ne Nat n1 t by omega) (by omega) (fun t' k' => ?_) (none_booked hb (I.tok (n1 + 1)))
  have r1 : (a.length + (Txt.replace z " " R).length) ≤ sizeLine := by omega
  refine PyProof.Rows.add_str (fun t2 k2 => ?_) r1
  have hcat : (a ++ Txt.replace z " " R).length = a.length + (Txt.replace z " " R).length := Str.length_append _ _
  have r2 : (a ++ Txt.replace z " " R).length + b.length ≤ sizeLine := by omega
  refine thn (item_raw (k := 1) (its := [Value.str a ta, .str b tb].toArray) hNe hve (I.tok k2) hσe hl (by omega) (by omega) rfl d1 d1') fun w1 s1 ⟨e1, n2, m2, e2⟩ => ?_
  subst e1 e2
  refine PyProof.Rows.add_str (fun t3 k3 => ?_) r2
  refine Calls.spliced_nil ?_
  have hws2 : ws.length < sizeLine := Nat.lt_of_lt_of_le hws (by decide)
  exact mt_append pins _ σ H (.ref aw) [.str (a ++ Txt.replace z " " R ++ b)] _ _ _ (I.tok k3) rfl (.cons ⟨t3, rfl⟩ .nil) ⟨aw, ws, _, rfl, rfl, hHw, hws2, q⟩
end
end DL
namespace DL
open PySem PySem.Spec PyProof.Rows L2
def wideS (ie il iw : Nat) (R : Str) : FS := fun env st => match env[ie]?, env[il]?, env[iw]? with
  | some (.ol [.str a, .str b]), some (.fz (.str z)), some (.ol xs) => if xs.length < 1000 ∧ a.length ≤ 1000 ∧ b.length ≤ 1000 ∧ z.length ≤ 1000 ∧ R.length ≤ 1000 then .nx (env.set iw (.ol (xs ++ [.str (a ++ Txt.replace z " " R ++ b)]))) st else .no
  | _, _, _ => .no
def roomS (ir ie il iw : Nat) (g0 : FE) (fL : FN) : FS := fun env st => (g0 env st).toS env fun d s => match d with
  | .int k => if 0 ≤ k ∧ k ≤ 1000 then (fL env s).toS env fun ds s1 => wideS ie il iw (repS " " k) ((env.set ir (.fz (.str (repS " " k)))).set ie (.ol ds)) s1 else .no
  | _ => .no
/-- what the second statement wants -/
def tWide (ie il iw : Nat) (R : Str) : TS := fun D τ G => ∃ (ae aw : Addr) (a b z : Str) (ws : List V), τ[ie]? = some (some (.ref ae)) ∧ G ae = some (.lst [.str a, .str b]) ∧ τ[il]? = some (some (.str z)) ∧ τ[iw]? = some (some (.ref aw)) ∧ G aw = some (.lst ws) ∧
  (ws.length < 1000 ∧ a.length ≤ 1000 ∧ b.length ≤ 1000 ∧ z.length ≤ 1000 ∧ R.length ≤ 1000) ∧ D.nx τ (upd G aw (.lst (ws ++ [.str (a ++ Txt.replace z " " R ++ b)])))
def tRoom (ir ie il iw : Nat) (t0 tL : TE) : TS := fun D σ H => t0 σ H fun v H1 => ∃ k, v = .int k ∧ 0 ≤ k ∧ k ≤ 1000 ∧ tL σ H1 fun w H2 => tWide ie il iw (repS " " k) D ((σ.set ir (some (.str (repS " " k)))).set ie (some w)) H2
section
variable {K : PySem.W.Frag} {E : WX} {B : Base} {ρ : List Addr} {F H : Hp} {env : Env} {st : Store} {σ : L2.St} {D : Ends}
theorem snd_wide {ie il iw : Nat} {R : Str} : SndS K E (tWide ie il iw R) (wideS ie il iw R) := fun B ρ F env st σ H D S k => by
  unfold wideS at k
  split at k
  · rename_i a b z xs h1 h2 h3
    split at k
    · rename_i hc
      obtain ⟨ae, vs, g1, _, _, g2, g3⟩ := S.sl _ _ h1
      obtain ⟨v, g4, g5⟩ := S.sl _ _ h2
      obtain ⟨aw, ws, g6, _, _, g7, g8⟩ := S.sl _ _ h3
      have e1 : vs = [.str a, .str b] := by
        cases g3 with
        | cons r1 r2 =>
          cases r2 with
          | cons r2 r3 =>
            cases r3
            cases r1
            cases r2
            rfl
      cases g5
      subst e1
      refine ⟨ae, aw, a, b, z, ws, g1, g2, g4, g6, g7, ⟨by rw [g8.length]; exact hc.1, hc.2⟩, ?_⟩
      exact k ρ F σ _ (S.slList h3 g6 g7 (g8.append (.cons (.str _) .nil))) (.refl _) (.refl _)
    · exact k.elim
  · exact k.elim
theorem snd_room {ir ie il iw : Nat} {t0 tL : TE} {g0 : FE} {fL : FN} (q0 : SndE K E t0 g0) (qL : SndN K E tL fL) : SndS K E (tRoom ir ie il iw t0 tL) (roomS ir ie il iw g0 fL) := fun B ρ F env st σ H D S k => by
  refine q0 B ρ F env st σ H _ S (OutS.bind k fun d s1 ρ1 F1 H1 v S1 l1 e1 r1 h1 => ?_)
  split at h1
  · rename_i n
    cases r1.int
    split at h1
    · rename_i hn
      refine ⟨n, rfl, hn.1, hn.2, qL B ρ1 F1 env s1 σ H1 _ S1 ?_⟩
      cases hr : fL env s1 with
      | no => rw [hr] at h1; exact h1
      | err c fs s => rw [hr] at h1; exact fun ρ2 F2 H2 od S2 l e x => h1 ρ2 F2 σ H2 od S2 l e x
      | ok ds s2 =>
        rw [hr] at h1
        intro ρ2 F2 H2 b vs S2 l2 e2 g1 g2 g3 g4 g5 r2
        have S3 := setM_ok (ix := [ir, ie]) (is := [.val (.str (repS " " n)), .new ds]) (vs := [.str (repS " " n), .ref b]) (z := []) S2 (.val (.str _) (.new ⟨g1, g2, g3, g4, g5, fun _ => HO.noConfusion⟩ r2 (by simp) .nil)) rfl
        exact snd_wide B ρ2 F2 _ s2 _ H2 D S3 (OutS.on (show OutS K E B ρ1 F1 D (wideS ie il iw (repS " " n) ((env.set ir (.fz (.str (repS " " n)))).set ie (.ol ds)) s2) from h1) l2 e2)
    · exact h1.elim
  · exact h1.elim
end
section
variable {Γ : Ga}
/-- all four names are plain locals and no special ones -/
def okRoom (N : List Str) (sc : Scope) (xs : List Str) (ix : List Nat) : Bool := locs N sc xs ix && xs.all fun x => (x == ("__debug__" : Str)) == false && (x == ("__classdict__" : Str)) == false
theorem dssT_room {xr xe xl xw : Str} {ir ie il iw : Nat} {e0 eL : Expr} {g0 : FE} {fL : FN} {px py pt pt2 cp bp pos : Pos} {kt k2 jc : Nat} {q0 q1 q2 q3 q4 q5 c0 c1 c2 apos aq cp4 b1 b2 cpos pos2 q6 : Pos} {j0 j1 j2 : Nat}
    (h0 : DE Γ e0 g0) (hL : DN Γ eL fL) (hb : Booked Γ.K) (hl : okRoom Γ.N Γ.sc [xr, xe, xl, xw] [ir, ie, il, iw] = true := by decide +kernel) (hN : Γ.N.Nodup := by assumption)
    (hse : ∀ env : PySem.Env, ∀ a b : Expr, a = .BinOp (.Constant (.str " ") jc cp) .Mult e0 bp → b = eL → starEach [a, b] env = [(false, eval a env), (false, eval b env)] := by intro env a b ha hb; subst ha hb; rfl)
    (hw : ∀ env : PySem.Env, env.scope = Γ.sc → swappedStores [.Tuple [.Name xr px, .Name xe py] kt pt] (.Tuple [.BinOp (.Constant (.str " ") jc cp) .Mult e0 bp, eL] k2 pt2) env = pure (some [xr, xe]) := by intro env h; cases env; cases h; rfl)
    (hs : ∀ env : PySem.Env, swapsWithSole [.Tuple [.Name xr px, .Name xe py] kt pt] (.Tuple [.BinOp (.Constant (.str " ") jc cp) .Mult e0 bp, eL] k2 pt2) pos.line env = pure false := by intro _; rfl)
    (l1 : (apos.endLine == cpos.line) = true := by rfl) (l2 : (aq.endLine == cp4.line) = true := by rfl)
    (hsw : ∀ env : PySem.Env, swapsWith (.Call (.Attribute (.Name xw q0) "append" apos) [.BinOp (.BinOp (.Subscript (.Name xe q1) (.Constant (.int 0) j0 c0) q2) .Add (.Call (.Attribute (.Name xl q3) "replace" aq) [.Constant (.str " ") j1 c1, .Name xr q4] [] cp4) b1) .Add (.Subscript (.Name xe q5) (.Constant (.int 1) j2 c2) q6) b2] [] cpos) none pos2.line env = pure false := by intro _; rfl) :
    DSsT Γ [.Assign [.Tuple [.Name xr px, .Name xe py] kt pt] (.Tuple [.BinOp (.Constant (.str " ") jc cp) .Mult e0 bp, eL] k2 pt2) pos,
      .Expr (.Call (.Attribute (.Name xw q0) "append" apos) [.BinOp (.BinOp (.Subscript (.Name xe q1) (.Constant (.int 0) j0 c0) q2) .Add (.Call (.Attribute (.Name xl q3) "replace" aq) [.Constant (.str " ") j1 c1, .Name xr q4] [] cp4) b1) .Add (.Subscript (.Name xe q5) (.Constant (.int 1) j2 c2) q6) b2] [] cpos) pos2]
      (roomS ir ie il iw g0 fL) := by
  obtain ⟨t0, p0, s0⟩ := h0.run
  obtain ⟨tL, pL, sL⟩ := hL.run
  simp only [okRoom, locs, Bool.and_eq_true, decide_eq_true_eq, Bool.not_eq_true', List.contains_cons, List.contains_nil, Bool.or_false, Bool.or_eq_false_iff, beq_eq_false_iff_ne, ne_eq, List.all_cons, List.all_nil, Bool.and_true, beq_iff_eq] at hl
  obtain ⟨⟨⟨⟨n1, x1⟩, d1, _, _⟩, ⟨⟨n2, x2⟩, _, _⟩, ⟨⟨n3, x3⟩, _⟩, ⟨n4, x4⟩, _⟩, ⟨y1, _⟩, ⟨y2, z2⟩, ⟨y3, z3⟩, y4, z4⟩ := hl
  have bf : ∀ {x y : Str}, ¬ x = y → (x == y) = false := fun h => beq_eq_false_iff_ne.mpr h
  refine ⟨tRoom ir ie il iw t0 tL, fun X m => ?_, snd_room s0 sL⟩
  intro pins s σ H D k1 I k
  have f1 : X.N[ir]? = some xr := by rw [m.N]; exact n1
  have f2 : X.N[ie]? = some xe := by rw [m.N]; exact n2
  have f3 : X.N[il]? = some xl := by rw [m.N]; exact n3
  have f4 : X.N[iw]? = some xw := by rw [m.N]; exact n4
  have g1 : X.env.scope.names.lookup xr = some .local := by rw [m.sc]; exact x1
  have g2 : X.env.scope.names.lookup xe = some .local := by rw [m.sc]; exact x2
  have g3 : X.env.scope.names.lookup xl = some .local := by rw [m.sc]; exact x3
  have g4 : X.env.scope.names.lookup xw = some .local := by rw [m.sc]; exact x4
  have hbX : Booked X.K := by rw [m.K]; exact hb
  refine wpAny_execs_cons (thn (room_one (D := fun R τ G => tWide ie il iw R D τ G) m.calm (by rw [m.N]; exact hN) f1 f2 d1 g1 g2 (p0 X m) (pL X m) (hse X.env) (hw X.env m.sc) (hs X.env) k1 I k) fun f s1 ⟨e, R, τ, G, I1, w1, r1⟩ => ?_)
  subst e
  obtain ⟨ae, aw, a, b, z, ws, h1, h2, h3, h4, h5, ⟨u1, u2, u3, u4, u5⟩, q⟩ := w1
  refine wpAny_execs_cons (thn (room_two (D := { D with nx := fun τ G => D.nx τ G }) I1 hbX r1 g1 f2 (.inl g2) f3 (.inl g3) f4 (.inl g4) h1 h2 h3 h4 h5 u1 u2 u3 u4 u5 q (bf y1) (bf y2) (bf z2) (bf y3) (bf z3) (bf y4) (bf z4) l1 l2 (hsw X.env)) fun f s2 hf => ?_)
  cases f with
  | next => exact wpAny_execs_nil hf
  | ret v => exact hf
  | brk => exact hf
  | cont => exact hf
end
end DL
namespace HW
open PySem PySem.Spec PyProof.Rows L2 DL
def b_Board_marks (A : Cl) : FS :=
  (retS (bin oIx (fldV A.Board "parts" (vr 0)) (cst (.int 0))))
def φ_Board_marks (A : Cl) : Fn := runF 1 (b_Board_marks A)
def b_Board_carries (A : Cl) : FS :=
  (retS (bin oIx (fldV A.Board "parts" (vr 0)) (cst (.int 1))))
def φ_Board_carries (A : Cl) : Fn := runF 1 (b_Board_carries A)
def b_Board_levers (A : Cl) : FS :=
  (retS (bin oIx (fldV A.Board "parts" (vr 0)) (cst (.int 2))))
def φ_Board_levers (A : Cl) : Fn := runF 1 (b_Board_levers A)
def b_Board_eq (A : Cl) : FS :=
  (retS (andV (cal (oIsC A.Board) (consA (vr 1) (consA (cst (.cls A.Board)) nilA))) (bin oEq (fldV A.Board "parts" (vr 0)) (fldV A.Board "parts" (vr 1)))))
def φ_Board_eq (A : Cl) : Fn := runF 2 (b_Board_eq A)
def b_write (A : Cl) : FS :=
  (seqS (asgS (fldV A.Board "parts" (vr 0)) (ofN (tupN 3 (consN (nmN 1) (consN (nmN 2) (consN (nmN 3) nilN))))))
  (seqS (setS 4 (bin oAdd (frz (lcN (itA (vr 1)) (nmN 5) yesT (jsV ((fmtV (cst (.str "wheel"))) :: ((cst (.str " ")) :: ((fmtV (vr 5)) :: []))) Str.empty) [5])) (frz (lcN (itA (vr 2)) (tupN 2 (consN (nmN 5) (consN (nmN 6) nilN))) yesT (jsV ((fmtV (cst (.str "carry"))) :: ((cst (.str " ")) :: ((fmtV (vr 5)) :: ((cst (.str " ")) :: ((fmtV (vr 6)) :: []))))) Str.empty) [5, 6]))))
  (retS (joinV (cst (.str "\n")) (bin oAdd (vr 4) (frz (lcN (itA (vr 3)) (nmN 7) yesT (joinV (cst (.str " ")) (bin oAdd (frz (lstN (consA (cst (.str "lever")) nilA))) (frz (lcN (itA (vr 7)) (nmN 8) yesT (cal oStrI (consA (vr 8) nilA)) [8])))) [7])))))))
def φ_write (A : Cl) : Fn := runF 9 (b_write A)
def b_number_in (A : Cl) : FS :=
  (seqS (setS 5 (ifV (tst (bin oLtA (vr 1) (cal oLen (consA (vr 0) nilA)))) (bin oIx (vr 0) (vr 1)) (cst (.str ""))))
  (seqS (thenFrz 6 (ownS 6 (lcN (itR2 (vr 2) (bin oAdd (vr 3) (cst (.int 1)))) (nmN 7) yesT (cal oStrI (consA (vr 7) nilA)) [7])))
  (seqS (ifS (tst (bin (oInA true) (vr 5) (vr 6))) noS nxS)
  (retS (cal oIntS (consA (vr 5) nilA))))))
def φ_number_in (A : Cl) : Fn := runF 8 (b_number_in A)
def b_check_end (A : Cl) : FS :=
  (ifS (tst (bin oGtA (cal oLen (consA (vr 0) nilA)) (vr 1))) noS nxS)
def φ_check_end (A : Cl) : Fn := runF 3 (b_check_end A)
def b_take_carry (A : Cl) : FS :=
  (seqS (setS 4 (ifV (tst (bin oNe (vr 2) (tupV nilA))) (bin oIx (vr 2) (negV (cst (.int 1)))) (tupV (consA (cst (.int 0)) (consA (cst (.int 0)) nilA)))))
  (seqS (setS 5 (app 5 (φ_number_in A) (consA (vr 0) (consA (cst (.int 1)) (consA (bin oIx (vr 4) (cst (.int 0))) (consA (bin oSub (vr 1) (cst (.int 1))) (consA (vr 3) nilA)))))))
  (seqS (setS 6 (app 5 (φ_number_in A) (consA (vr 0) (consA (cst (.int 2)) (consA (ifV (tst (bin oEq (vr 5) (bin oIx (vr 4) (cst (.int 0))))) (bin oAdd (bin oIx (vr 4) (cst (.int 1))) (cst (.int 1))) (bin oAdd (vr 5) (cst (.int 1)))) (consA (bin oSub (vr 1) (cst (.int 1))) (consA (vr 3) nilA)))))))
  (seqS (drpS (app 3 (φ_check_end A) (consA (vr 0) (consA (cst (.int 3)) (consA (vr 3) nilA)))))
  (retS (tupV (consA (vr 5) (consA (vr 6) nilA))))))))
def φ_take_carry (A : Cl) : Fn := runF 7 (b_take_carry A)
def l1_take_lever (A : Cl) : FS :=
  (setS 3 (bin oAdd (vr 3) (tupV (consA (app 5 (φ_number_in A) (consA (vr 0) (consA (vr 4) (consA (bin oAdd (bin oIx (vr 3) (negV (cst (.int 1)))) (cst (.int 1))) (consA (bin oSub (vr 1) (cst (.int 1))) (consA (vr 2) nilA)))))) nilA))))
def t1_take_lever : FG := (ofN (nmN 4))
def b_take_lever (A : Cl) : FS :=
  (seqS (setS 3 (tupV (consA (app 5 (φ_number_in A) (consA (vr 0) (consA (cst (.int 1)) (consA (cst (.int 0)) (consA (bin oSub (vr 1) (cst (.int 1))) (consA (vr 2) nilA)))))) nilA)))
  (seqS (forS (itR2 (cst (.int 2)) (cal oLen (consA (vr 0) nilA))) t1_take_lever (l1_take_lever A))
  (retS (vr 3))))
def φ_take_lever (A : Cl) : Fn := runF 5 (b_take_lever A)
def l1_read (A : Cl) : FS :=
  (seqS (setS 7 (slV (vr 6) noP (someP (cst (.int 1)))))
  (ifS (andT (tst (bin oEq (vr 7) (frz (lstN (consA (cst (.str "wheel")) nilA))))) (andT (tst (bin oLtA (cal oLen (consA (vr 2) nilA)) (cst (.int 4)))) (andT (tst (bin oEq (vr 3) (tupV nilA))) (tst (bin oEq (vr 4) (tupV nilA)))))) (seqS (setS 2 (bin oAdd (vr 2) (tupV (consA (app 5 (φ_number_in A) (consA (vr 6) (consA (cst (.int 1)) (consA (cst (.int 2)) (consA (cst (.int 60)) (consA (vr 5) nilA)))))) nilA))))
  (drpS (app 3 (φ_check_end A) (consA (vr 6) (consA (cst (.int 2)) (consA (vr 5) nilA)))))) (ifS (andT (tst (bin oEq (vr 7) (frz (lstN (consA (cst (.str "carry")) nilA))))) (andT (tst (bin oNe (vr 2) (tupV nilA))) (tst (bin oEq (vr 4) (tupV nilA))))) (setS 3 (bin oAdd (vr 3) (tupV (consA (app 4 (φ_take_carry A) (consA (vr 6) (consA (cal oLen (consA (vr 2) nilA)) (consA (vr 3) (consA (vr 5) nilA))))) nilA)))) (ifS (andT (tst (bin oEq (vr 7) (frz (lstN (consA (cst (.str "lever")) nilA))))) (andT (tst (bin oNe (vr 2) (tupV nilA))) (tst (bin oLtA (cal oLen (consA (vr 4) nilA)) (cst (.int 4)))))) (setS 4 (bin oAdd (vr 4) (tupV (consA (app 3 (φ_take_lever A) (consA (vr 6) (consA (cal oLen (consA (vr 2) nilA)) (consA (vr 5) nilA)))) nilA)))) noS))))
def t1_read : FG := (ofN (tupN 2 (consN (nmN 5) (consN (nmN 6) nilN))))
def b_read (A : Cl) : FS :=
  (seqS (thenFrz 1 (ownS 1 (lcN (itA (frz (splitN (vr 0) (cst (.str "\n"))))) (nmN 5) yesT (frz (lcN (itA (frz (splitN (vr 5) (cst (.str " "))))) (nmN 8) (tst (bin oNe (vr 8) (cst (.str "")))) (vr 8) [8])) [5])))
  (seqS (parS [2, 3, 4] (consMV (tupV nilA) (consMV (tupV nilA) (consMV (tupV nilA) nilM))))
  (seqS (forS (itEn1 (vr 1)) t1_read (l1_read A))
  (seqS (ifS (tst (bin oEq (vr 4) (tupV nilA))) noS nxS)
  (retS (mkF A.Board 3 (φ_Board_init A) (consA (vr 2) (consA (vr 3) (consA (vr 4) nilA)))))))))
def φ_read (A : Cl) : Fn := runF 9 (b_read A)
def l2_law (A : Cl) : FS :=
  (roomS 11 12 10 9 (bin oAdd (cst (.int 1)) (app 2 (φ_law_next A) (consA (vr 1) (consA (cst (.int 3)) nilA)))) (lstN (consA (bin oMulS (cst (.str " ")) (app 2 (φ_law_next A) (consA (vr 1) (consA (cst (.int 3)) nilA)))) (consA (bin oMulS (cst (.str " ")) (app 2 (φ_law_next A) (consA (vr 1) (consA (cst (.int 2)) nilA)))) nilA))))
def t2_law : FG := (ofN (nmN 10))
def l3_law (A : Cl) : FS :=
  (seqS (setS 14 (app 1 (φ_read A) (consA (vr 13) nilA)))
  (seqS (ifS (notT (tst (app 2 (φ_law_alike A 6) (consA (frz (lstN (consA (prp A.Board (φ_Board_marks A) (vr 14)) (consA (prp A.Board (φ_Board_carries A) (vr 14)) (consA (prp A.Board (φ_Board_levers A) (vr 14)) nilA))))) (consA (frz (lstN (consA (vr 3) (consA (vr 4) (consA (vr 5) nilA))))) nilA))))) (retS (cst (.bl false))) nxS)
  (ifS (orT (notT (tst (bin (oEqM A.Board (φ_Board_eq A)) (vr 14) (vr 7)))) (notT (tst (app 2 (φ_law_alike A 6) (consA (app 1 (φ_write A) (consA (vr 14) nilA)) (consA (vr 8) nilA)))))) (retS (cst (.bl false))) nxS)))
def t3_law : FG := (ofN (nmN 13))
def l1_law (A : Cl) : FS :=
  (seqS (asgS (app 2 (φ_law_parts A) (consA (vr 1) (consA (cst (.int 59)) nilA))) (ofN (tupN 3 (consN (nmN 3) (consN (nmN 4) (consN (nmN 5) nilN))))))
  (seqS (thenFrz 6 (ownS 6 (lcN (itA (vr 3)) (nmN 15) yesT (bin oAdd (cst (.str "wheel ")) (cal oStrI (consA (vr 15) nilA))) [15])))
  (seqS (setS 6 (bin oAdd (vr 6) (frz (lcN (itA (vr 4)) (tupN 2 (consN (nmN 16) (consN (nmN 17) nilN))) yesT (bin oAdd (bin oAdd (bin oAdd (cst (.str "carry ")) (cal oStrI (consA (vr 16) nilA))) (cst (.str " "))) (cal oStrI (consA (vr 17) nilA))) [16, 17]))))
  (seqS (setS 6 (bin oAdd (vr 6) (frz (lcN (itA (vr 5)) (nmN 18) yesT (joinV (cst (.str " ")) (bin oAdd (frz (lstN (consA (cst (.str "lever")) nilA))) (frz (lcN (itA (vr 18)) (nmN 19) yesT (cal oStrI (consA (vr 19) nilA)) [19])))) [18]))))
  (seqS (parS [7, 8] (consMV (mkF A.Board 3 (φ_Board_init A) (consA (vr 3) (consA (vr 4) (consA (vr 5) nilA)))) (consMV (joinV (cst (.str "\n")) (vr 6)) nilM)))
  (seqS (ifS (notT (tst (app 2 (φ_law_alike A 6) (consA (app 1 (φ_write A) (consA (vr 7) nilA)) (consA (vr 8) nilA))))) (retS (cst (.bl false))) nxS)
  (seqS (ownS 9 (lstN nilA))
  (seqS (forS (itA (vr 6)) t2_law (l2_law A))
  (frzS 9 (forS (itA (frz (lstN (consA (vr 8) (consA (joinV (cst (.str "\n")) (vr 9)) nilA))))) t3_law (l3_law A)))))))))))
def t1_law : FG := (ofN (nmN 2))
def b_law (A : Cl) : FS :=
  (seqS (setS 1 (app 2 (φ_law_mix A) (consA (vr 0) (consA (cst (.int 13)) nilA))))
  (seqS (forS (itR1 (cst (.int 5))) t1_law (l1_law A))
  (retS (cst (.bl true)))))
def φ_law (A : Cl) : Fn := runF 20 (b_law A)
end HW
namespace HW
open PySem PySem.Spec PyProof.Rows L2 DL
/-! ### words -/
def nS (n : Nat) : Str := Str.ofString (toString ((n : Nat) : Int))
theorem nS_def {n : Nat} : (Str.ofString (toString ((n : Nat) : Int)) : Str) = nS n := rfl
abbrev sps (x : Str) : List Nat := x.cps.toList
theorem sps_nS (n : Nat) : sps (nS n) = TL.numL n := TL.tl_num n
theorem strOk_of {x : Str} (h : ∀ c ∈ sps x, c < 128) : PyData.strOk x = true := by
  unfold PyData.strOk
  rw [← Array.all_toList, List.all_eq_true]
  intro c hc
  have := h c hc
  exact decide_eq_true (by omega)
theorem nS_lt (n : Nat) : ∀ c ∈ sps (nS n), 48 ≤ c ∧ c ≤ 57 := fun c hc => by
  rw [sps_nS] at hc
  have := TL.numL_digits n c hc
  omega
theorem nS_ok (n : Nat) : PyData.strOk (nS n) = true := strOk_of fun c hc => by have := nS_lt n c hc; omega
theorem nS_len {n : Nat} (h : n < 1000) : (nS n).length ≤ 3 := by
  have := TL.numL_len (n := n) (k := 3) (by omega) (by omega)
  rw [← sps_nS] at this
  show (nS n).cps.size ≤ 3
  rw [← Array.length_toList]; exact this
theorem nS_inj {m n : Nat} (h : nS m = nS n) : m = n := TL.numL_inj (by rw [← sps_nS, ← sps_nS, h])
theorem nS_int {n : Nat} (h : n < 1000) : PySem.intText? (nS n) = some (n : Int) := TL.int_num (by have := TL.numL_len (n := n) (k := 3) (by omega) (by omega); omega)
theorem log_n {n : Nat} (h : n < 1000) : ((n : Nat) : Int).natAbs.log2 < 1920 := by
  by_cases h0 : n = 0
  · subst h0; decide
  · refine (Nat.log2_lt (by omega)).mpr ?_
    exact Nat.lt_of_lt_of_le (show _ < 2 ^ 10 by omega) (Nat.pow_le_pow_right (by omega) (by omega))
structure Wd (w : Str) : Prop where
  ne : sps w ≠ []
  lt : ∀ c ∈ sps w, c < 128
  sp : 32 ∉ sps w
  nl : 10 ∉ sps w
  len : w.length ≤ 10
theorem Wd.ok {w : Str} (h : Wd w) : PyData.strOk w = true := strOk_of h.lt
theorem wd_n {n : Nat} (h : n < 1000) : Wd (nS n) := ⟨by rw [sps_nS]; exact TL.numL_ne n, fun c hc => by have := nS_lt n c hc; omega, fun hc => by have := nS_lt n _ hc; omega, fun hc => by have := nS_lt n _ hc; omega, by have := nS_len h; omega⟩
theorem wd_wheel : Wd "wheel" := ⟨by decide, by decide, by decide, by decide, by decide⟩
theorem wd_carry : Wd "carry" := ⟨by decide, by decide, by decide, by decide, by decide⟩
theorem wd_lever : Wd "lever" := ⟨by decide, by decide, by decide, by decide, by decide⟩
/-! ### lines -/
def spc : Str := " "
def nlc : Str := "\n"
def ln (ws : List Str) : Str := Txt.join spc ws
theorem sps_join (y : Str) (ws : List Str) : sps (Txt.join y ws) = TL.joinL (sps y) (ws.map sps) := by
  rw [TL.join_eq]; exact TL.tl_join y ws
theorem joinL_mem {S : List Nat} {x : Nat} : ∀ {ps : List (List Nat)}, x ∈ TL.joinL S ps → x ∈ S ∨ ∃ p ∈ ps, x ∈ p
  | [], h => by cases h
  | [p], h => .inr ⟨p, by simp, h⟩
  | p :: q :: r, h => by
    rcases List.mem_append.mp (show x ∈ p ++ (S ++ TL.joinL S (q :: r)) from h) with h | h
    · exact .inr ⟨p, by simp, h⟩
    · rcases List.mem_append.mp h with h | h
      · exact .inl h
      · rcases joinL_mem h with h | ⟨z, hz, h⟩
        · exact .inl h
        · exact .inr ⟨z, List.mem_cons_of_mem _ hz, h⟩
theorem ln_nl {ws : List Str} (h : ∀ w ∈ ws, Wd w) : 10 ∉ sps (ln ws) := fun hc => by
  unfold ln at hc
  rw [sps_join] at hc
  rcases joinL_mem hc with hc | ⟨p, hp, hc⟩
  · revert hc; decide
  · obtain ⟨w, hw, rfl⟩ := List.mem_map.mp hp
    exact (h w hw).nl hc
theorem split_ln {ws : List Str} (hne : ws ≠ []) (h : ∀ w ∈ ws, Wd w) : Txt.split (ln ws) spc = ws :=
  TL.split_join (s := 32) (S := []) (by decide) (by decide +kernel) hne fun w hw => (h w hw).sp
theorem split_txt {rows : List (List Str)} (hne : rows ≠ []) (h : ∀ r ∈ rows, ∀ w ∈ r, Wd w) : Txt.split (Txt.join nlc (rows.map ln)) nlc = rows.map ln :=
  TL.split_join (s := 10) (S := []) (by decide) (by decide +kernel) (by simpa using hne) fun w hw => by
    obtain ⟨r, hr, rfl⟩ := List.mem_map.mp hw
    exact ln_nl (h r hr)
theorem str_len (x : Str) : x.length = (sps x).length := by
  show x.cps.size = _
  rw [← Array.length_toList]
theorem joinL_len {S : List Nat} {b : Nat} : ∀ {ps : List (List Nat)}, (∀ p ∈ ps, p.length ≤ b) → (TL.joinL S ps).length ≤ ps.length * (b + S.length)
  | [], _ => by simp [TL.joinL]
  | [p], h => by
    have := h p (by simp)
    show p.length ≤ _
    simp; omega
  | p :: q :: r, h => by
    have h1 := h p (by simp)
    have h2 := joinL_len (S := S) (b := b) (ps := q :: r) fun z hz => h z (List.mem_cons_of_mem _ hz)
    show (p ++ (S ++ TL.joinL S (q :: r))).length ≤ _
    simp only [List.length_append, List.length_cons, Nat.succ_mul] at h2 ⊢
    omega
theorem ln_len {ws : List Str} (h : ∀ w ∈ ws, Wd w) : (ln ws).length ≤ ws.length * 11 := by
  rw [str_len]
  unfold ln
  rw [sps_join]
  have := joinL_len (S := sps spc) (b := 10) (ps := ws.map sps) fun p hp => by
    obtain ⟨w, hw, rfl⟩ := List.mem_map.mp hp
    rw [← str_len]; exact (h w hw).len
  have e : (sps spc).length = 1 := by decide
  rw [e] at this
  simpa using this
theorem txt_len {rows : List (List Str)} (h : ∀ r ∈ rows, r.length ≤ 10 ∧ ∀ w ∈ r, Wd w) : (Txt.join nlc (rows.map ln)).length ≤ rows.length * 111 := by
  rw [str_len, sps_join]
  have := joinL_len (S := sps nlc) (b := 110) (ps := (rows.map ln).map sps) fun p hp => by
    obtain ⟨w, hw, rfl⟩ := List.mem_map.mp hp
    obtain ⟨r, hr, rfl⟩ := List.mem_map.mp hw
    rw [← str_len]
    have := ln_len (h r hr).2
    have := (h r hr).1
    omega
  have e : (sps nlc).length = 1 := by decide
  rw [e] at this
  simpa using this
theorem sum_le {ws : List Str} {b : Nat} (h : ∀ w ∈ ws, w.length ≤ b) : (ws.map (·.length)).sum ≤ ws.length * b := by
  induction ws with
  | nil => simp
  | cons w r ih =>
    have h1 := h w (by simp)
    have h2 := ih fun z hz => h z (List.mem_cons_of_mem _ hz)
    simp only [List.map_cons, List.sum_cons, List.length_cons, Nat.succ_mul]
    omega
end HW
namespace HW
open PySem PySem.Spec PyProof.Rows L2 DL
variable {A : Cl} {st : Store} {m : List Int} {c : List (Nat × Nat)} {l : List (List Nat)}
/-! ### what is written -/
def rwM (x : Int) : List Str := ["wheel", nS x.toNat]
def rwC (p : Nat × Nat) : List Str := ["carry", nS p.1, nS p.2]
def rwL (v : List Nat) : List Str := "lever" :: v.map nS
def rowsW (m : List Int) (c : List (Nat × Nat)) (l : List (List Nat)) : List (List Str) := m.map rwM ++ (c.map rwC ++ l.map rwL)
def txt (m : List Int) (c : List (Nat × Nat)) (l : List (List Nat)) : Str := Txt.join nlc ((rowsW m c l).map ln)
theorem wd_rwM {x : Int} (h : x ≤ 60) : ∀ w ∈ rwM x, Wd w := fun w hw => by
  rcases (by simpa [rwM] using hw : w = "wheel" ∨ w = nS x.toNat) with rfl | rfl
  · exact wd_wheel
  · exact wd_n (by omega)
theorem wd_rwC {p : Nat × Nat} (h : p.1 < 100 ∧ p.2 < 100) : ∀ w ∈ rwC p, Wd w := fun w hw => by
  rcases (by simpa [rwC] using hw : w = "carry" ∨ w = nS p.1 ∨ w = nS p.2) with rfl | rfl | rfl
  · exact wd_carry
  · exact wd_n (by omega)
  · exact wd_n (by omega)
theorem wd_rwL {v : List Nat} (h : ∀ k ∈ v, k < 100) : ∀ w ∈ rwL v, Wd w := fun w hw => by
  rcases List.mem_cons.mp hw with rfl | hw
  · exact wd_lever
  · obtain ⟨k, hk, rfl⟩ := List.mem_map.mp hw
    exact wd_n (by have := h k hk; omega)
theorem wd_rows (P : PartsOk m c l) : ∀ r ∈ rowsW m c l, r.length ≤ 10 ∧ r ≠ [] ∧ ∀ w ∈ r, Wd w := fun r hr => by
  have h4 := P.four
  rcases List.mem_append.mp hr with hr | hr
  · obtain ⟨x, hx, rfl⟩ := List.mem_map.mp hr
    exact ⟨by simp [rwM], by simp [rwM], wd_rwM (P.good.pos x hx).2⟩
  · rcases List.mem_append.mp hr with hr | hr
    · obtain ⟨p, hp, rfl⟩ := List.mem_map.mp hr
      have := P.good.up p hp
      exact ⟨by simp [rwC], by simp [rwC], wd_rwC (by omega)⟩
    · obtain ⟨v, hv, rfl⟩ := List.mem_map.mp hr
      have h1 := sorted_le (P.levs.srt v hv) (P.levs.lt v hv)
      exact ⟨by simp [rwL]; omega, by simp [rwL], wd_rwL fun k hk => by have := P.levs.lt v hv k hk; omega⟩
theorem rows_len (P : PartsOk m c l) : (rowsW m c l).length ≤ 24 := by
  have h1 := P.four; have h2 := P.clen; have h3 := P.levs.few
  simp [rowsW]; omega
theorem rows_ne (P : PartsOk m c l) : rowsW m c l ≠ [] := fun e => by
  have h1 := P.one
  have := congrArg List.length e
  simp only [rowsW, List.length_append, List.length_map, List.length_nil] at this
  omega
theorem ext_s {x y : Str} (h : sps x = sps y) : x = y := TL.ext_tl h
theorem sps_app (x y : Str) : sps (x ++ y) = sps x ++ sps y := TL.tl_append x y
theorem ln_two {a b : Str} : (Str.empty ++ a) ++ spc ++ b = ln [a, b] := by
  refine ext_s ?_
  unfold ln
  rw [sps_join, sps_app, sps_app, sps_app]
  simp [TL.joinL, show sps Str.empty = [] from rfl]
theorem ln_three {a b d : Str} : (Str.empty ++ a) ++ spc ++ b ++ spc ++ d = ln [a, b, d] := by
  refine ext_s ?_
  unfold ln
  rw [sps_join, sps_app, sps_app, sps_app, sps_app, sps_app]
  simp [TL.joinL, show sps Str.empty = [] from rfl]
theorem app_len (x y : Str) : (x ++ y).length = x.length + y.length := by rw [str_len, sps_app, List.length_append, ← str_len, ← str_len]
theorem js_two {env : DL.Env} {g : FE} {w : Str} {n : Nat} (hw : Wd w) (hn : n < 1000) (hg : g env st = .ok (.int n) st) : jsV [fmtV (cst (.str w)), cst (.str " "), fmtV g] Str.empty env st = .ok (.str (ln [w, nS n])) st := by
  have h1 := hw.len
  have h2 := (wd_n hn).len
  have e1 : (" " : Str).length = 1 := by decide
  have e0 : Str.empty.length = 0 := by decide
  have l1 : (Str.empty ++ w).length ≤ 100000 := by rw [app_len]; omega
  have l2 : (Str.empty ++ w ++ (" " : Str)).length ≤ 100000 := by rw [app_len, app_len]; omega
  have l3 : (Str.empty ++ w ++ (" " : Str) ++ nS n).length ≤ 100000 := by rw [app_len, app_len, app_len]; omega
  simp only [ev_jsC, ev_fmtV, ev_cst, go_ok, ev_fmtS (show w.length ≤ 100000 by omega), ev_js1 l1, ev_js1 l2, hg, ev_fmtI (log_n hn)]
  rw [show (Str.ofString (toString ((n : Nat) : Int)) : Str) = nS n from rfl, ev_js1 l3, ev_jsN]
  rw [← ln_two]; rfl
theorem js_three {env : DL.Env} {g g' : FE} {w : Str} {n k : Nat} (hw : Wd w) (hn : n < 1000) (hk : k < 1000) (hg : g env st = .ok (.int n) st) (hg' : g' env st = .ok (.int k) st) : jsV [fmtV (cst (.str w)), cst (.str " "), fmtV g, cst (.str " "), fmtV g'] Str.empty env st = .ok (.str (ln [w, nS n, nS k])) st := by
  have h1 := hw.len
  have h2 := (wd_n hn).len
  have h3 := (wd_n hk).len
  have e1 : (" " : Str).length = 1 := by decide
  have e0 : Str.empty.length = 0 := by decide
  have l1 : (Str.empty ++ w).length ≤ 100000 := by rw [app_len]; omega
  have l2 : (Str.empty ++ w ++ (" " : Str)).length ≤ 100000 := by rw [app_len, app_len]; omega
  have l3 : (Str.empty ++ w ++ (" " : Str) ++ nS n).length ≤ 100000 := by rw [app_len, app_len, app_len]; omega
  have l4 : (Str.empty ++ w ++ (" " : Str) ++ nS n ++ (" " : Str)).length ≤ 100000 := by rw [app_len, app_len, app_len, app_len]; omega
  have l5 : (Str.empty ++ w ++ (" " : Str) ++ nS n ++ (" " : Str) ++ nS k).length ≤ 100000 := by rw [app_len, app_len, app_len, app_len, app_len]; omega
  simp only [ev_jsC, ev_fmtV, ev_cst, go_ok, ev_fmtS (show w.length ≤ 100000 by omega), ev_js1 l1, ev_js1 l2, hg, hg', ev_fmtI (log_n hn), ev_fmtI (log_n hk)]
  rw [show (Str.ofString (toString ((n : Nat) : Int)) : Str) = nS n from rfl, ev_js1 l3]
  simp only [ev_jsC, ev_fmtV, ev_cst, go_ok, ev_js1 l4, hg', ev_fmtI (log_n hk)]
  rw [show (Str.ofString (toString ((k : Nat) : Int)) : Str) = nS k from rfl, ev_js1 l5, ev_jsN]
  rw [← ln_three]; rfl
theorem str_nums {env : DL.Env} {i j : Nat} (hi : i < env.length) (hj : env[j]? = some (.fz (wD v))) (ho : notOwned env [i] = true) (hv : ∀ k ∈ v, k < 1000) (hl : v.length ≤ 1000) (hij : i ≠ j) : frz (lcN (itA (vr j)) (nmN i) yesT (cal oStrI (consA (vr i) nilA)) [i]) env st = .ok (.lst ((v.map nS).map .str)) st := by
  have hw : itA1 () (wD v) st = .ok (v.map wI) st := rfl
  simp only [ev_frz, ev_lcN, ev_itA, ev_vr, hj, slotE_fz, go_ok, hw]
  rw [ev_lc1 (by simp; omega) ho, wipeE_cons, wipeE_nil, lcL_map (F := wI) (G := fun k => .str (nS k)) v fun k hk => ⟨_, rfl, rfl, ?_, rfl⟩]
  · simp
  · simp only [ev_cal, ev_consA, ev_vr]
    rw [List.getElem?_set_self (by simpa using hi)]
    simp only [slotE_fz, go_ok, ev_cons1, ev_nilA, ev_cons2, wI, ev_cal1]
    exact ev_strI (log_n (hv k hk))
theorem p_write (P : PartsOk m c l) : φ_write A [boardD A m c l] st = .ok (.str (txt m c l)) st := by
  have h4 := P.four
  have hb : (boardD A m c l).isSl = false := rfl
  have hcl := P.clen
  have hll := P.levs.few
  have c1 : lc1 (nmN 5, yesT, jsV [fmtV (cst (.str "wheel")), cst (.str " "), fmtV (vr 5)] Str.empty, [5], [.fz (boardD A m c l), .fz (iT m), .fz (cD c), .fz (lD l), .un, .un, .un, .un, .un]) (m.map .int) st = .ok ((m.map fun x => ln (rwM x)).map .str) st := by
    rw [ev_lc1 (by simp; omega) (by simp), wipeE_cons, wipeE_nil, lcL_map (F := D.int) (G := fun x => .str (ln (rwM x))) m fun x hx => ⟨_, rfl, rfl, ?_, rfl⟩]
    · simp
    · have hp := P.good.pos x hx
      obtain ⟨n, rfl⟩ : ∃ n : Nat, x = (n : Int) := ⟨x.toNat, by omega⟩
      exact js_two wd_wheel (by omega) rfl
  have c2 : lc1 (tupN 2 (consN (nmN 5) (consN (nmN 6) nilN)), yesT, jsV [fmtV (cst (.str "carry")), cst (.str " "), fmtV (vr 5), cst (.str " "), fmtV (vr 6)] Str.empty, [5, 6], [.fz (boardD A m c l), .fz (iT m), .fz (cD c), .fz (lD l), .un, .un, .un, .un, .un]) (c.map pD) st = .ok ((c.map fun p => ln (rwC p)).map .str) st := by
    rw [ev_lc1 (by simp; omega) (by simp), wipeE_cons, wipeE_cons, wipeE_nil, lcL_map (F := pD) (G := fun p => .str (ln (rwC p))) c fun p hp => ⟨_, rfl, rfl, ?_, rfl⟩]
    · simp
    · have hp := P.good.up p hp
      exact js_three wd_carry (by omega) (by omega) rfl rfl
  have hcat := ev_catO (st := st) (xs := (m.map fun x => ln (rwM x)).map .str) (ys := (c.map fun p => ln (rwC p)).map .str) (by simp; omega)
  have hX : (m.map fun x => ln (rwM x)).map D.str ++ (c.map fun p => ln (rwC p)).map D.str = ((m.map rwM ++ c.map rwC).map ln).map .str := by simp [Function.comp_def]
  rw [hX] at hcat
  have c3 : lc1 (nmN 7, yesT, joinV (cst (.str " ")) (bin oAdd (frz (lstN (consA (cst (.str "lever")) nilA))) (frz (lcN (itA (vr 7)) (nmN 8) yesT (cal oStrI (consA (vr 8) nilA)) [8]))), [7], [.fz (boardD A m c l), .fz (iT m), .fz (cD c), .fz (lD l), .fz (.lst (((m.map rwM ++ c.map rwC).map ln).map .str)), .un, .un, .un, .un]) (l.map wD) st = .ok ((l.map fun v => ln (rwL v)).map .str) st := by
    rw [ev_lc1 (by simp; omega) (by simp), wipeE_cons, wipeE_nil, lcL_map (F := wD) (G := fun v => .str (ln (rwL v))) l fun v hv => ⟨_, rfl, rfl, ?_, rfl⟩]
    · simp
    · have h1 := sorted_le (P.levs.srt v hv) (P.levs.lt v hv)
      have hlt : ∀ k ∈ v, k < 1000 := fun k hk => by have := P.levs.lt v hv k hk; omega
      have hq := str_nums (st := st) (v := v) (i := 8) (j := 7) (env := [.fz (boardD A m c l), .fz (iT m), .fz (cD c), .fz (lD l), .fz (.lst (((m.map rwM ++ c.map rwC).map ln).map .str)), .un, .un, .fz (wD v), .un]) (by simp) rfl (by simp) hlt (by omega) (by omega)
      have hl1 : lst1 () [D.str "lever"] st = .ok [D.str "lever"] st := ev_lst1 (by simp) (by simp)
      have hc2 := ev_catO (st := st) (xs := [D.str "lever"]) (ys := (v.map nS).map .str) (by simp; omega)
      have hX2 : [D.str "lever"] ++ (v.map nS).map D.str = (rwL v).map .str := by simp [rwL]
      rw [hX2] at hc2
      have hc3 : ∀ env : DL.Env, oAdd env st (.lst [D.str "lever"]) (.lst ((v.map nS).map .str)) = .ok (.lst ((rwL v).map .str)) st := fun env => hc2
      have hj : ∀ env : DL.Env, join3 (env, " ") (.lst ((rwL v).map .str)) st = .ok (.str (ln (rwL v))) st := fun env => ev_join3 (by
        have h5 := sum_le (ws := rwL v) (b := 10) fun w hw => (wd_rwL (v := v) (fun k hk => by have := P.levs.lt v hv k hk; omega) w hw).len
        have h6 : (rwL v).length ≤ 6 := by simp [rwL]; omega
        have e1 : (" " : Str).length = 1 := by decide
        rw [e1]; omega)
      simp only [List.set_cons_succ, List.set_cons_zero]
      simp only [ev_joinV, ev_cst, go_ok, ev_join1, ev_bin]
      rw [ev_frz, ev_lstN, ev_consA, ev_cst, go_ok, ev_cons1, ev_nilA, go_ok, ev_cons2, go_ok, hl1, go_ok, ev_frz1, go_ok, ev_bin1, hq, go_ok, ev_bin2, hc3, go_ok, hj]
  have hcat2 := ev_catO (st := st) (xs := ((m.map rwM ++ c.map rwC).map ln).map .str) (ys := (l.map fun v => ln (rwL v)).map .str) (by simp; omega)
  have hX3 : ((m.map rwM ++ c.map rwC).map ln).map D.str ++ (l.map fun v => ln (rwL v)).map D.str = ((rowsW m c l).map ln).map .str := by simp [rowsW, Function.comp_def]
  rw [hX3] at hcat2
  have hj : ∀ env : DL.Env, join3 (env, "\n") (.lst (((rowsW m c l).map ln).map .str)) st = .ok (.str (txt m c l)) st := fun env => ev_join3 (by
    have h5 := sum_le (ws := (rowsW m c l).map ln) (b := 110) fun w hw => by
      obtain ⟨r, hr, rfl⟩ := List.mem_map.mp hw
      have := wd_rows P r hr
      have := ln_len this.2.2
      omega
    have h6 := rows_len P
    have e1 : ("\n" : Str).length = 1 := by decide
    rw [e1]
    simp only [List.length_map] at h5 ⊢
    omega)
  have a1 : ∀ env : DL.Env, oAdd env st (.lst ((m.map fun x => ln (rwM x)).map .str)) (.lst ((c.map fun p => ln (rwC p)).map .str)) = .ok (.lst (((m.map rwM ++ c.map rwC).map ln).map .str)) st := fun env => hcat
  have a2 : ∀ env : DL.Env, oAdd env st (.lst (((m.map rwM ++ c.map rwC).map ln).map .str)) (.lst ((l.map fun v => ln (rwL v)).map .str)) = .ok (.lst (((rowsW m c l).map ln).map .str)) st := fun env => hcat2
  have i1 : itA1 () (iT m) st = .ok (m.map .int) st := rfl
  have i2 : itA1 () (cD c) st = .ok (c.map pD) st := rfl
  have i3 : itA1 () (lD l) st = .ok (l.map wD) st := rfl
  have e0 : φ_write A [boardD A m c l] st = fin (b_write A [.fz (boardD A m c l), .un, .un, .un, .un, .un, .un, .un, .un] st) := by simp [φ_write, hb]
  have s1 : asgS (fldV A.Board "parts" (vr 0)) (ofN (tupN 3 (consN (nmN 1) (consN (nmN 2) (consN (nmN 3) nilN))))) [.fz (boardD A m c l), .un, .un, .un, .un, .un, .un, .un, .un] st = .nx [.fz (boardD A m c l), .fz (iT m), .fz (cD c), .fz (lD l), .un, .un, .un, .un, .un] st := by
    simp only [boardD]
    simp [partsD]
  rw [e0]
  unfold b_write
  rw [ev_seqS, s1, seq_nx, ev_seqS, ev_setS, ev_bin, ev_frz, ev_lcN, ev_itA, ev_vr, List.getElem?_cons_succ, List.getElem?_cons_zero, slotE_fz, go_ok, i1, go_ok, c1, go_ok, ev_frz1, go_ok, ev_bin1, ev_frz, ev_lcN, ev_itA, ev_vr, List.getElem?_cons_succ, List.getElem?_cons_succ, List.getElem?_cons_zero, slotE_fz, go_ok, i2, go_ok, c2, go_ok, ev_frz1, go_ok, ev_bin2, a1]
  have hns : (D.lst (((m.map rwM ++ c.map rwC).map ln).map .str)).isSl = false := rfl
  simp only [gS_ok, ev_setS1, hns, Bool.false_eq_true, if_false, seq_nx, List.set_cons_succ, List.set_cons_zero]
  rw [ev_retS, ev_joinV, ev_cst, go_ok, ev_join1, ev_bin, ev_vr, List.getElem?_cons_succ, List.getElem?_cons_succ, List.getElem?_cons_succ, List.getElem?_cons_succ, List.getElem?_cons_zero, slotE_fz, go_ok, ev_bin1, ev_frz, ev_lcN, ev_itA, ev_vr, List.getElem?_cons_succ, List.getElem?_cons_succ, List.getElem?_cons_succ, List.getElem?_cons_zero, slotE_fz, go_ok, i3, go_ok]
  rw [c3, go_ok, ev_frz1, go_ok, ev_bin2, a2, go_ok, hj]
  rfl
end HW
namespace HW
open PySem PySem.Spec PyProof.Rows L2 DL
section
variable {xs : List D} {d : D}
theorem at_last : atD (xs ++ [d]) (-1) = some d := by
  unfold atD ixN
  have h1 : -((xs ++ [d]).length : Int) ≤ -1 := by simp; omega
  have h2 : ((-1 : Int) + ((xs ++ [d]).length : Int)).toNat = xs.length := by simp; omega
  rw [if_neg (by omega), if_pos h1, h2]
  simp
end
section
variable {A : Cl} {st : Store} {m m' : List Int} {c c' : List (Nat × Nat)} {l l' : List (List Nat)}
theorem eqv_map {α : Type} {F : α → PyData} [DecidableEq α] (hF : ∀ a b, PyData.eqv (F a) (F b) = decide (a = b)) : ∀ as bs : List α, PyData.eqvAll (as.map F) (bs.map F) = decide (as = bs)
  | [], [] => by simp [PyData.eqvAll]
  | [], _ :: _ => by simp [PyData.eqvAll]
  | _ :: _, [] => by simp [PyData.eqvAll]
  | a :: r, b :: q => by
    simp only [List.map_cons, PyData.eqvAll, eqv_map hF r q, hF]
    by_cases h1 : a = b <;> by_cases h2 : r = q <;> simp [h1, h2]
theorem plain_wD {v : List Nat} (h : v.length ≤ 1000) : (wD v).plain 1 = true := by
  simp only [wD, plain_tup, List.length_map, Bool.and_eq_true, decide_eq_true_eq]
  exact ⟨by omega, plainL_map (fun _ => by simp [wI]) _⟩
theorem plain_pD {n : Nat} {p : Nat × Nat} : (pD p).plain (n + 1) = true := by simp [pD]
def pyP (p : Nat × Nat) : PyData := .tuple [.int p.1, .int p.2]
def pyW (w : Nat) : PyData := .int w
def pyWs (v : List Nat) : PyData := .tuple (v.map pyW)
def pyParts (m : List Int) (c : List (Nat × Nat)) (l : List (List Nat)) : PyData := .tuple [.tuple (m.map .int), .tuple (c.map pyP), .tuple (l.map pyWs)]
theorem py_parts {env : DL.Env} : pyT env st (partsD m c l) = some (pyParts m c l) := by
  have h1 : pyL env st (m.map .int) = some (m.map .int) := pyL_map (fun _ => by simp [D.py]) m
  have h2 : pyL env st (c.map pD) = some (c.map pyP) := pyL_map (fun _ => by simp [D.py, pD, pyP, pyL]) c
  have h3 : pyL env st (l.map wD) = some (l.map pyWs) := pyL_map (fun v => by
    have : pyL env st (v.map wI) = some (v.map pyW) := pyL_map (fun _ => by simp [D.py, wI, pyW]) v
    simp [D.py, wD, pyWs, this]) l
  simp [pyT, partsD, iT, cD, lD, D.py, pyL, h1, h2, h3, pyParts]
theorem eqv_parts : PyData.eqv (pyParts m c l) (pyParts m' c' l') = decide (m = m' ∧ c = c' ∧ l = l') := by
  have h1 := eqv_ints m m'
  have h2 := eqv_map (F := pyP) (fun a b => by
    have e : a = b ↔ (a.1 : Int) = b.1 ∧ (a.2 : Int) = b.2 := ⟨fun h => by rw [h]; exact ⟨rfl, rfl⟩, fun h => Prod.ext (by omega) (by omega)⟩
    simp only [pyP, PyData.eqv, PyData.eqvAll, Bool.and_true]
    by_cases q1 : (a.1 : Int) = b.1 <;> by_cases q2 : (a.2 : Int) = b.2 <;> simp [e, q1, q2] <;> omega) c c'
  have h3 := eqv_map (F := pyWs) (fun a b => by
    have := eqv_map (F := pyW) (fun a b => by simp [pyW, PyData.eqv]; by_cases h : a = b <;> simp [h] <;> omega) a b
    simp [pyWs, PyData.eqv, this]) l l'
  simp only [pyParts, PyData.eqv, PyData.eqvAll, h1, h2, h3, Bool.and_true]
  by_cases q1 : m = m' <;> by_cases q2 : c = c' <;> by_cases q3 : l = l' <;> simp [q1, q2, q3]
theorem plain_lex : ∀ {m : List Int} {c : List (Nat × Nat)} {l : List (List Nat)}, m.length ≤ 1000 → c.length ≤ 1000 → l.length ≤ 1000 → (∀ v ∈ l, v.length ≤ 1000) → (partsD m c l).plain 3 = true := by
  intro m c l h1 h2 h3 h4
  have a2 : plainL 1 (c.map pD) = true := plainL_map (fun _ => plain_pD) _
  have a3 : plainL 1 (l.map wD) = true := plainL_of fun x hx => by
    obtain ⟨v, hv, rfl⟩ := List.mem_map.mp hx
    exact plain_wD (h4 v hv)
  have b2 : c.length ≤ 100000 := by omega
  have b3 : l.length ≤ 100000 := by omega
  have b1 : m.length ≤ 100000 := by omega
  simp [partsD, iT, cD, lD, a2, a3, b1, b2, b3]
theorem PartsOk.plain (P : PartsOk m c l) : (partsD m c l).plain 3 = true := by
  have h1 := P.clen
  have h2 := P.levs.few
  have h3 := P.four
  exact plain_lex (by omega) (by omega) (by omega) fun v hv => P.levs.small hv P.four
theorem eq_parts (P : PartsOk m c l) (P' : PartsOk m' c' l') {env : DL.Env} : oEq env st (partsD m c l) (partsD m' c' l') = .ok (.bl (decide (m = m' ∧ c = c' ∧ l = l'))) st := by
  obtain ⟨p, h1, h2, h3⟩ := pyT_plain (env := env) (st := st) P.plain (by omega)
  obtain ⟨q, k1, k2, k3⟩ := pyT_plain (env := env) (st := st) P'.plain (by omega)
  rw [py_parts] at h1 k1
  cases h1; cases k1
  unfold oEq cmpD
  rw [py_parts, py_parts]
  simp only [h2, k2, and_self, if_true, eqv_parts]
  simp
theorem fld_board {i : Nat} {env : DL.Env} (h : env[i]? = some (.fz (boardD A m c l))) : fldV A.Board "parts" (vr i) env st = .ok (partsD m c l) st := by
  simp [h, boardD]
theorem isC_board {env : DL.Env} : oIsC A.Board env st [boardD A m c l, .cls A.Board] = .ok (.bl true) st := by
  simp [oIsC, isC, insD, boardD]
theorem eqB (P : PartsOk m c l) (P' : PartsOk m' c' l') {env : DL.Env} : oEqM A.Board (φ_Board_eq A) env st (boardD A m c l) (boardD A m' c' l') = .ok (.bl (decide (m = m' ∧ c = c' ∧ l = l'))) st := by
  have hb : (boardD A m c l).isSl = false := rfl
  have hb' : (boardD A m' c' l').isSl = false := rfl
  have e : φ_Board_eq A [boardD A m c l, boardD A m' c' l'] st = .ok (.bl (decide (m = m' ∧ c = c' ∧ l = l'))) st := by
    have f1 := fld_board (A := A) (st := st) (m := m) (c := c) (l := l) (i := 0) (env := [.fz (boardD A m c l), .fz (boardD A m' c' l')]) rfl
    have f2 := fld_board (A := A) (st := st) (m := m') (c := c') (l := l') (i := 1) (env := [.fz (boardD A m c l), .fz (boardD A m' c' l')]) rfl
    have f3 := isC_board (A := A) (st := st) (m := m') (c := c') (l := l') (env := [.fz (boardD A m c l), .fz (boardD A m' c' l')])
    have f4 := eq_parts (st := st) P P' (env := [.fz (boardD A m c l), .fz (boardD A m' c' l')])
    generalize decide (m = m' ∧ c = c' ∧ l = l') = dd at *
    generalize partsD m c l = p at *
    generalize partsD m' c' l' = p' at *
    generalize boardD A m c l = b at *
    generalize boardD A m' c' l' = b' at *
    have e0 : φ_Board_eq A [b, b'] st = fin (b_Board_eq A [.fz b, .fz b'] st) := by simp [φ_Board_eq, hb, hb']
    rw [e0]
    unfold b_Board_eq
    simp only [ev_retS, ev_andV, ev_cal, ev_consA, ev_vr, List.getElem?_cons_succ, List.getElem?_cons_zero, slotE_fz, go_ok, ev_cons1, ev_cst, ev_nilA, ev_cons2, ev_cal1, f3, ev_andV1, if_true, ev_bin, f1, f2, ev_bin1, ev_bin2, f4]
    simp
  unfold oEqM
  rw [if_pos (by simp [hb, hb'])]
  have q1 : insD A.Board st (boardD A m c l) = some [(("parts" : Str), partsD m c l)] := by simp [insD, boardD]
  have q2 : isC A.Board st (boardD A m' c' l') = some true := by simp [isC, insD, boardD]
  rw [q1, q2]
  simp only [e]
  rfl
theorem p_mk2 (P : PartsOk m c l) (H : stBel st.length st = true) {f : FA} {env : DL.Env} (h : f env st = .ok [iT m, cD c, lD l] st) : mkF A.Board 3 (φ_Board_init A) f env st = .ok (boardD A m c l) st := by
  refine mk_ok' (ds := [iT m, cD c, lD l]) h (by simp [show (iT m).isSl = false from rfl, show (cD c).isSl = false from rfl, show (lD l).isSl = false from rfl]) rfl ?_ ?_ H
  · have := p_init (A := A) (st := st ++ [.ins A.Board []]) P (k := st.length) (by simp)
    rw [this]
    simp
  · simp [belF, bel_parts]
theorem prp_parts (P : PartsOk m c l) {i : Nat} {env : DL.Env} (h : env[i]? = some (.fz (boardD A m c l))) : prp A.Board (φ_Board_marks A) (vr i) env st = .ok (iT m) st ∧ prp A.Board (φ_Board_carries A) (vr i) env st = .ok (cD c) st ∧ prp A.Board (φ_Board_levers A) (vr i) env st = .ok (lD l) st := by
  have g0 : ∀ env : DL.Env, oIx env st (partsD m c l) (.int 0) = .ok (iT m) st := fun env => rfl
  have g1 : ∀ env : DL.Env, oIx env st (partsD m c l) (.int 1) = .ok (cD c) st := fun env => rfl
  have g2 : ∀ env : DL.Env, oIx env st (partsD m c l) (.int 2) = .ok (lD l) st := fun env => rfl
  have s0 : (iT m).isSl = false := rfl
  have s1 : (cD c).isSl = false := rfl
  have s2 : (lD l).isSl = false := rfl
  have hv : vr i env st = .ok (boardD A m c l) st := by rw [ev_vr, h]; rfl
  have f0 : φ_Board_marks A [boardD A m c l] st = .ok (iT m) st := by
    simp only [boardD]
    simp [φ_Board_marks, b_Board_marks, g0, s0]
  have f1 : φ_Board_carries A [boardD A m c l] st = .ok (cD c) st := by
    simp only [boardD]
    simp [φ_Board_carries, b_Board_carries, g1, s1]
  have f2 : φ_Board_levers A [boardD A m c l] st = .ok (lD l) st := by
    simp only [boardD]
    simp [φ_Board_levers, b_Board_levers, g2, s2]
  refine ⟨ev_prp' hv f0, ev_prp' hv f1, ev_prp' hv f2⟩
end
end HW
namespace HW
open PySem PySem.Spec PyProof.Rows L2 DL
variable {A : Cl} {st : Store} {m : List Int} {c : List (Nat × Nat)} {l : List (List Nat)}
/-! ### what is read -/
def rowD (ws : List Str) : D := .lst (ws.map .str)
@[simp] theorem sl_row {ws : List Str} : (rowD ws).isSl = false := rfl
theorem len_row {env : DL.Env} {ws : List Str} : oLen env st [rowD ws] = .ok (.int ws.length) st := by
  show Res.ok (D.int ((ws.map D.str).length : Int)) st = _
  simp
theorem ix_row {env : DL.Env} {ws : List Str} {k : Nat} (h : k < ws.length) : oIx env st (rowD ws) (.int k) = .ok (.str ws[k]) st := by
  have e1 : oIx env st (rowD ws) (.int k) = ixK (atD (ws.map .str) k) st := rfl
  rw [e1, at_map h]; rfl
def nums (lo : Nat) (k : Nat) : List Str := (List.range k).map fun i => nS (lo + i)
theorem p_number_in {ws : List Str} {k n lo hi : Nat} {x : Int} (hk : k < ws.length) (hw : ws[k] = nS n) (h1 : lo ≤ n) (h2 : n ≤ hi) (h3 : hi ≤ 100) : φ_number_in A [rowD ws, .int k, .int lo, .int hi, .int x] st = .ok (.int n) st := by
  have hlt : (k : Int) < (ws.length : Int) := by omega
  have hlen := fun env : DL.Env => len_row (st := st) (env := env) (ws := ws)
  have hix := fun env : DL.Env => ix_row (st := st) (env := env) hk
  have r1 : rngOk (lo : Int) = true := rng_nat (by omega)
  have r2 : rngOk ((hi : Int) + 1) = true := rng_ok (by omega) (by omega)
  have et : ((hi : Int) + 1 - lo).toNat = hi + 1 - lo := by omega
  have hc : ∀ x5 : DL.Slot, lc1 (nmN 7, yesT, cal oStrI (consA (vr 7) nilA), [7], [.fz (rowD ws), .fz (.int k), .fz (.int lo), .fz (.int hi), .fz (.int x), x5, .un, .un]) (rngD lo (hi + 1 - lo)) st = .ok ((nums lo (hi + 1 - lo)).map .str) st := fun x5 => by
    rw [ev_lc1 (by simp [rngD]; omega) (by simp), wipeE_cons, wipeE_nil]
    unfold rngD nums
    rw [lcL_map (G := fun i : Nat => .str (nS (lo + i))) (List.range (hi + 1 - lo)) fun i hi2 => ⟨_, rfl, rfl, ?_, rfl⟩]
    · simp
    · have hi2 := List.mem_range.mp hi2
      have e1 : ((lo : Nat) : Int) + (i : Int) = ((lo + i : Nat) : Int) := by omega
      rw [e1]
      exact ev_strI (env := [.fz (rowD ws), .fz (.int k), .fz (.int lo), .fz (.int hi), .fz (.int x), x5, .un, .fz (.int ((lo + i : Nat) : Int))]) (log_n (by omega))
  have hmem : ws[k] ∈ nums lo (hi + 1 - lo) := by
    rw [hw]
    exact List.mem_map.mpr ⟨n - lo, List.mem_range.mpr (by omega), by rw [show lo + (n - lo) = n by omega]⟩
  have hin : ∀ env : DL.Env, oInA true env st (.str ws[k]) (.lst ((nums lo (hi + 1 - lo)).map .str)) = .ok (.bl false) st := fun env => by
    rw [in_strs]; simp [hmem]
  have hint : ∀ env : DL.Env, oIntS env st [.str ws[k]] = .ok (.int n) st := fun env => by
    rw [hw]; exact ev_intS (nS_int (by omega)) (by have := nS_len (n := n) (by omega); omega)
  have hns : noSl ((nums lo (hi + 1 - lo)).map D.str) = true := noSl_map (fun _ => rfl) _
  simp [φ_number_in, b_number_in, hlen, hlt, hix, r1, r2, et, hc, hns, hin, hint]
theorem p_check_end {ws : List Str} {n : Nat} {x : Int} (h : ws.length ≤ n) : φ_check_end A [rowD ws, .int n, .int x] st = .ok .non st := by
  have hlen := fun env : DL.Env => len_row (st := st) (env := env) (ws := ws)
  have hg : ¬ (n : Int) < (ws.length : Int) := by omega
  simp [φ_check_end, b_check_end, hlen, hg]
theorem eq_nilU {n : Nat} {xs : List D} {env : DL.Env} (h : (D.tup xs).plain n = true) (hn : n ≤ 64) : oEq env st (.tup xs) (.tup []) = .ok (.bl (decide (xs = []))) st := by
  cases xs with
  | nil => exact eq_refl' h hn
  | cons x r =>
    obtain ⟨p, h1, h2, h3⟩ := pyT_plain (env := env) (st := st) h hn
    obtain ⟨q, k1, k2, k3⟩ := pyT_plain (env := env) (st := st) (n := 1) (d := .tup []) (by simp) (by omega)
    have e2 : q = .tuple [] := by
      have : pyT env st (.tup []) = some (.tuple []) := by simp [pyT, D.py, pyL]
      rw [this] at k1; exact (Option.some.inj k1).symm
    subst e2
    have e1 : ∃ a b, p = .tuple (a :: b) := by
      have e : pyT env st (.tup (x :: r)) = (pyL env st (x :: r)).map PyData.tuple := by simp [pyT, D.py]
      rw [e] at h1
      cases hx : x.py env st with
      | none => simp [pyL, hx] at h1
      | some a =>
        cases hr : pyL env st r with
        | none => simp [pyL, hx, hr] at h1
        | some b => simp [pyL, hx, hr] at h1; exact ⟨a, b, h1.symm⟩
    obtain ⟨a, b, rfl⟩ := e1
    unfold oEq cmpD
    rw [h1, k1]
    simp only [h2, k2, and_self, if_true]
    simp [PyData.eqv, PyData.eqvAll]
/-- the last carry so far -/
def lastC (cs : List (Nat × Nat)) : Nat × Nat := cs.getLastD (0, 0)
theorem plain_cD {cs : List (Nat × Nat)} (h : cs.length ≤ 1000) : (cD cs).plain 2 = true := by
  have : plainL 1 (cs.map pD) = true := plainL_map (fun p => plain_pD) _
  simp [cD, this]; omega
theorem last_cD {env : DL.Env} {cs : List (Nat × Nat)} (h : cs ≠ []) : oIx env st (cD cs) (.int (-1)) = .ok (pD (lastC cs)) st := by
  obtain ⟨r, z, rfl⟩ : ∃ r z, cs = r ++ [z] := ⟨cs.dropLast, cs.getLast h, (List.dropLast_concat_getLast h).symm⟩
  have e1 : oIx env st (cD (r ++ [z])) (.int (-1)) = ixK (atD ((r ++ [z]).map pD) (-1)) st := rfl
  rw [e1, List.map_append, List.map_cons, List.map_nil, at_last]
  simp [lastC, List.getLastD_eq_getLast?]
theorem p_take_carry {cs : List (Nat × Nat)} {W : Nat} {p : Nat × Nat} {x : Int} (h1 : p.1 < p.2) (h2 : p.2 < W) (hW : W ≤ 100) (hcs : cs.length ≤ 100) (hl : (lastC cs).1 < p.1 ∨ ((lastC cs).1 = p.1 ∧ (lastC cs).2 + 1 ≤ p.2)) :
    φ_take_carry A [rowD (rwC p), .int W, cD cs, .int x] st = .ok (pD p) st := by
  have hsl : (cD cs).isSl = false := rfl
  have hpl : ∀ p : Nat × Nat, (pD p).isSl = false := fun _ => rfl
  have hne : ∀ env : DL.Env, oNe env st (cD cs) (.tup []) = .ok (.bl (!decide (cs = []))) st := fun env => by
    have := ne_nilT (env := env) (st := st) (plain_cD (cs := cs) (by omega)) (by omega)
    rw [show cD cs = .tup (cs.map pD) from rfl, this]
    cases cs <;> simp
  have e1 : ((W : Int) - 1) = ((W - 1 : Nat) : Int) := by omega
  have q1 := p_number_in (A := A) (st := st) (ws := rwC p) (k := 1) (n := p.1) (lo := (lastC cs).1) (hi := W - 1) (x := x) (by simp [rwC]) rfl (by omega) (by omega) (by omega)
  have q3 := p_check_end (A := A) (st := st) (ws := rwC p) (n := 3) (x := x) (by simp [rwC])
  have hv : ifV (tst (bin oNe (vr 2) (tupV nilA))) (bin oIx (vr 2) (negV (cst (.int 1)))) (tupV (consA (cst (.int 0)) (consA (cst (.int 0)) nilA))) [.fz (rowD (rwC p)), .fz (.int W), .fz (cD cs), .fz (.int x), .un, .un, .un] st = .ok (pD (lastC cs)) st := by
    by_cases hc : cs = []
    · have hne2 : ∀ env : DL.Env, oNe env st (cD cs) (.tup []) = .ok (.bl false) st := fun env => by rw [hne]; simp [hc]
      have hl0 : lastC cs = (0, 0) := by rw [hc]; rfl
      simp [hne2, hl0, pD]
    · have := fun env => last_cD (st := st) (env := env) hc
      simp [hne, hc, this]
  have i0 : ∀ env : DL.Env, oIx env st (pD (lastC cs)) (.int 0) = .ok (.int (lastC cs).1) st := fun env => rfl
  have i1 : ∀ env : DL.Env, oIx env st (pD (lastC cs)) (.int 1) = .ok (.int (lastC cs).2) st := fun env => rfl
  have hv2 : (((lastC cs).1 = p.1 → ((lastC cs).2 : Int) + 1 = (((lastC cs).2 + 1 : Nat) : Int)) ∧ (p.1 : Int) + 1 = ((p.1 + 1 : Nat) : Int)) := ⟨fun _ => by omega, by omega⟩
  have e0 : φ_take_carry A [rowD (rwC p), .int W, cD cs, .int x] st = fin (b_take_carry A [.fz (rowD (rwC p)), .fz (.int W), .fz (cD cs), .fz (.int x), .un, .un, .un] st) := by simp [φ_take_carry, hsl]
  have hs4 : setS 4 (ifV (tst (bin oNe (vr 2) (tupV nilA))) (bin oIx (vr 2) (negV (cst (.int 1)))) (tupV (consA (cst (.int 0)) (consA (cst (.int 0)) nilA)))) [.fz (rowD (rwC p)), .fz (.int W), .fz (cD cs), .fz (.int x), .un, .un, .un] st = .nx [.fz (rowD (rwC p)), .fz (.int W), .fz (cD cs), .fz (.int x), .fz (pD (lastC cs)), .un, .un] st := by
    rw [ev_setS, hv]; simp [hpl]
  rw [e0]
  unfold b_take_carry
  rw [ev_seqS, hs4, seq_nx]
  show _ = Res.ok (D.tup [.int p.1, .int p.2]) st
  generalize lastC cs = z at *
  by_cases hz : z.1 = p.1
  · have q2 := p_number_in (A := A) (st := st) (ws := rwC p) (k := 2) (n := p.2) (lo := z.2 + 1) (hi := W - 1) (x := x) (by simp [rwC]) rfl (by omega) (by omega) (by omega)
    rw [← e1] at q1 q2
    have hzi : (p.1 : Int) = (z.1 : Int) := by omega
    have eq2 : ((z.2 + 1 : Nat) : Int) = (z.2 : Int) + 1 := by omega
    rw [eq2] at q2
    generalize hR : rowD (rwC p) = R at *
    have hRs : R.isSl = false := by rw [← hR]; rfl
    have q1 : φ_number_in A [R, .int 1, .int z.1, .int ((W : Int) - 1), .int x] st = .ok (.int p.1) st := q1
    have q2 : φ_number_in A [R, .int 2, .int ((z.2 : Int) + 1), .int ((W : Int) - 1), .int x] st = .ok (.int p.2) st := q2
    have q3 : φ_check_end A [R, .int 3, .int x] st = .ok .non st := q3
    rw [hzi] at q1
    simp [i0, i1, q1, q2, q3, hRs, hzi]
  · have q2 := p_number_in (A := A) (st := st) (ws := rwC p) (k := 2) (n := p.2) (lo := p.1 + 1) (hi := W - 1) (x := x) (by simp [rwC]) rfl (by omega) (by omega) (by omega)
    rw [← e1] at q1 q2
    have hzi : ¬ (p.1 : Int) = (z.1 : Int) := by omega
    have eq2 : ((p.1 + 1 : Nat) : Int) = (p.1 : Int) + 1 := by omega
    rw [eq2] at q2
    generalize hR : rowD (rwC p) = R at *
    have hRs : R.isSl = false := by rw [← hR]; rfl
    have q1 : φ_number_in A [R, .int 1, .int z.1, .int ((W : Int) - 1), .int x] st = .ok (.int p.1) st := q1
    have q2 : φ_number_in A [R, .int 2, .int ((p.1 : Int) + 1), .int ((W : Int) - 1), .int x] st = .ok (.int p.2) st := q2
    have q3 : φ_check_end A [R, .int 3, .int x] st = .ok .non st := q3
    simp [i0, i1, q1, q2, q3, hRs, hzi]
theorem last_wD {env : DL.Env} {v : List Nat} {z : Nat} : oIx env st (wD (v ++ [z])) (.int (-1)) = .ok (.int z) st := by
  have e1 : oIx env st (wD (v ++ [z])) (.int (-1)) = ixK (atD ((v ++ [z]).map wI) (-1)) st := rfl
  rw [e1, List.map_append, List.map_cons, List.map_nil, at_last]; rfl
theorem p_take_lever {v : List Nat} {W : Nat} {x : Int} (hv : v ≠ []) (hs : v.Pairwise (· < ·)) (hW : W ≤ 100) (hlt : ∀ k ∈ v, k < W) : φ_take_lever A [rowD (rwL v), .int W, .int x] st = .ok (wD v) st := by
  obtain ⟨a, r, rfl⟩ : ∃ a r, v = a :: r := by
    cases v with
    | nil => exact absurd rfl hv
    | cons a r => exact ⟨a, r, rfl⟩
  have e1 : ((W : Int) - 1) = ((W - 1 : Nat) : Int) := by have := hlt a (by simp); omega
  have hvl := sorted_le hs hlt
  have q1 := p_number_in (A := A) (st := st) (ws := rwL (a :: r)) (k := 1) (n := a) (lo := 0) (hi := W - 1) (x := x) (by simp [rwL]) rfl (by omega) (by have := hlt a (by simp); omega) (by omega)
  obtain ⟨e, s, q, hs2, x4, he⟩ := forL_rng (tg := t1_take_lever) (b := l1_take_lever A) (lo := 2) (n := r.length) (st := st) (env := [.fz (rowD (rwL (a :: r))), .fz (.int W), .fz (.int x), .fz (wD [a]), .un])
    (fun i env s => s = st ∧ ∃ x4 : DL.Slot, env = [.fz (rowD (rwL (a :: r))), .fz (.int W), .fz (.int x), .fz (wD ((a :: r).take (i + 1))), x4])
    (fun i env s hi ⟨hs2, x4, he⟩ => by
      subst hs2 he
      obtain ⟨pre, z, hz⟩ : ∃ pre z, (a :: r).take (i + 1) = pre ++ [z] := by
        have hne : (a :: r).take (i + 1) ≠ [] := by simp
        exact ⟨_, _, (List.dropLast_concat_getLast hne).symm⟩
      have hlen : ((a :: r).take (i + 1)).length = i + 1 := by simp; omega
      have hzz : z = (a :: r)[i]'(by simp; omega) := by
        have h1 : ((a :: r).take (i + 1))[i]? = some z := by
          rw [hz] at hlen ⊢
          simp at hlen
          simp [← hlen]
        rw [List.getElem?_take] at h1
        simp only [Nat.lt_succ_self, if_true] at h1
        obtain ⟨_, h2⟩ := List.getElem?_eq_some_iff.mp h1
        exact h2.symm
      have hn : (a :: r)[i + 1]'(by simp; omega) ∈ (a :: r) := List.getElem_mem _
      have hlt2 := hlt _ hn
      have hzlt : z < (a :: r)[i + 1]'(by simp; omega) := by
        rw [hzz]
        exact List.pairwise_iff_getElem.mp hs i (i + 1) (by simp; omega) (by simp; omega) (by omega)
      have q2 := p_number_in (A := A) (st := s) (ws := rwL (a :: r)) (k := i + 2) (n := (a :: r)[i + 1]'(by simp; omega)) (lo := z + 1) (hi := W - 1) (x := x) (by simp [rwL]; omega) (by simp [rwL]) (by omega) (by omega) (by omega)
      have ek : (2 : Int) + (i : Int) = ((i + 2 : Nat) : Int) := by omega
      have ez : ((z + 1 : Nat) : Int) = (z : Int) + 1 := by omega
      rw [← e1, ez] at q2
      have hla := fun env : DL.Env => last_wD (st := s) (env := env) (v := pre) (z := z)
      rw [← hz] at hla
      have htk : (a :: r).take (i + 1 + 1) = (a :: r).take (i + 1) ++ [(a :: r)[i + 1]'(by simp; omega)] := (List.take_append_getElem (by simp; omega)).symm
      have hadd : ∀ env : DL.Env, oAdd env s (wD ((a :: r).take (i + 1))) (.tup [.int ((a :: r)[i + 1]'(by simp; omega) : Nat)]) = .ok (wD ((a :: r).take (i + 1 + 1))) s := fun env => by
        have := ev_addT' (env := env) (st := s) (xs := ((a :: r).take (i + 1)).map wI) (ys := [.int ((a :: r)[i + 1]'(by simp; omega) : Nat)]) (by simp only [List.length_map, hlen, List.length_cons, List.length_nil]; simp at hvl; omega)
        have e2 : wD ((a :: r).take (i + 1 + 1)) = .tup (((a :: r).take (i + 1)).map wI ++ [.int ((a :: r)[i + 1]'(by simp; omega) : Nat)]) := by rw [htk, wD, List.map_append]; rfl
        rw [e2]
        exact this
      have hw : ∀ u : List Nat, (wD u).isSl = false := fun _ => rfl
      refine ⟨_, s, ?_, rfl, .fz (.int ((i + 2 : Nat) : Int)), rfl⟩
      rw [ek]
      generalize ((i + 2 : Nat) : Int) = K at *
      generalize hR : rowD (rwL (a :: r)) = R at *
      have hRs : R.isSl = false := by rw [← hR]; rfl
      generalize ((a :: r)[i + 1]'(by simp; omega)) = y at *
      have hw2 := hw ((a :: r).take (i + 1 + 1))
      generalize wD ((a :: r).take (i + 1 + 1)) = T2 at *
      generalize wD ((a :: r).take (i + 1)) = T1 at *
      simp [t1_take_lever, l1_take_lever, hla, q2, hRs, hadd, hw2])
    ⟨rfl, .un, by simp⟩
  subst hs2 he
  have hlen : ∀ env : DL.Env, oLen env s [rowD (rwL (a :: r))] = .ok (.int ((r.length : Int) + 2)) s := fun env => by
    rw [len_row]
    simp [rwL]
    omega
  have r1 : rngOk 2 = true := by decide +kernel
  have r2 : rngOk ((r.length : Int) + 2) = true := rng_ok (by omega) (by simp at hvl; omega)
  have et : ((r.length : Int) + 2 - 2).toNat = r.length := by omega
  have hw : ∀ u : List Nat, (wD u).isSl = false := fun _ => rfl
  have e0 : ((a :: r).take (r.length + 1)) = a :: r := by simp
  rw [e0] at q
  rw [← e1] at q1
  have q1 : φ_number_in A [rowD (rwL (a :: r)), .int 1, .int 0, .int ((W : Int) - 1), .int x] s = .ok (.int a) s := q1
  have ew : D.tup [.int (a : Int)] = wD [a] := rfl
  generalize hR : rowD (rwL (a :: r)) = R at *
  have hRs : R.isSl = false := by rw [← hR]; rfl
  simp [φ_take_lever, b_take_lever, hRs, q1, hlen, r1, r2, et, ew, hw, q]
end HW
namespace HW
open PySem PySem.Spec PyProof.Rows L2 DL
variable {A : Cl} {st : Store} {m : List Int} {c : List (Nat × Nat)} {l : List (List Nat)}
theorem head_row {env : DL.Env} {f : FE} {w : Str} {ws : List Str} (hf : f env st = .ok (rowD (w :: ws)) st) : slV f noP (someP (cst (.int 1))) env st = .ok (.lst [.str w]) st := by
  unfold slV
  rw [hf]
  have e : seqL env st (rowD (w :: ws)) = some ((w :: ws).map .str) := rfl
  have e2 : cutD ((w :: ws).map D.str) none (some (1 : Int)) = [.str w] := by
    have := cut_to_ (xs := (w :: ws).map D.str) (k := 1)
    rw [show ((1 : Nat) : Int) = 1 from rfl] at this
    rw [this]; rfl
  show (match seqL env st (rowD (w :: ws)) with | some xs => Res.ok (D.lst (cutD xs none (some (1 : Int)))) st | none => .no) = _
  rw [e]
  simp only [e2]
theorem eq_nn {env : DL.Env} : oEq env st (.tup []) (.tup []) = .ok (.bl true) st := by
  have := eq_nilU (env := env) (st := st) (xs := []) (n := 1) (by simp) (by omega)
  simpa using this
theorem ne_nn {env : DL.Env} {ns : List Int} (h : ns ≠ []) (hl : ns.length ≤ 1000) : oNe env st (iT ns) (.tup []) = .ok (.bl true) st := by
  have hp : (D.tup (ns.map .int)).plain 1 = true := by
    have : plainL 0 (ns.map D.int) = true := plainL_map (fun _ => plain_int) _
    simp [this]; omega
  have := ne_nilT (env := env) (st := st) hp (by omega)
  rw [show iT ns = .tup (ns.map .int) from rfl, this]
  simp [h]
theorem hd_eq {env : DL.Env} {a b : Str} (ha : Wd a) (hb : Wd b) : oEq env st (.lst [.str a]) (.lst [.str b]) = .ok (.bl (decide (a = b))) st := eq_head ha.ok hb.ok
theorem lst_one {w : Str} : lst1 () [D.str w] st = .ok [D.str w] st := ev_lst1 (by simp) (by simp)
theorem read_m {ms : List Int} {x : Int} {n : Nat} {x0 x1 x5 x6 x7 x8 : DL.Slot} (hl : ms.length < 4) (hx : 2 ≤ x ∧ x ≤ 60) :
    (t1_read (.tup [.int n, rowD (rwM x)]) [x0, x1, .fz (iT ms), .fz (.tup []), .fz (.tup []), x5, x6, x7, x8] st).seq (l1_read A) = .nx [x0, x1, .fz (iT (ms ++ [x])), .fz (.tup []), .fz (.tup []), .fz (.int n), .fz (rowD (rwM x)), .fz (.lst [.str "wheel"]), x8] st := by
  obtain ⟨k, rfl⟩ : ∃ k : Nat, x = (k : Int) := ⟨x.toNat, by omega⟩
  have q1 : φ_number_in A [rowD (rwM k), .int 1, .int 2, .int 60, .int n] st = .ok (.int k) st := p_number_in (A := A) (st := st) (ws := rwM k) (k := 1) (n := k) (lo := 2) (hi := 60) (x := n) (by simp [rwM]) rfl (by omega) (by omega) (by omega)
  have q2 : φ_check_end A [rowD (rwM k), .int 2, .int n] st = .ok .non st := p_check_end (A := A) (st := st) (ws := rwM k) (n := 2) (x := n) (by simp [rwM])
  have hh := fun (a b : DL.Slot) => head_row (st := st) (env := [x0, x1, .fz (iT ms), .fz (.tup []), .fz (.tup []), .fz (.int n), .fz (rowD (rwM k)), a, b]) (f := vr 6) (w := "wheel") (ws := [nS (k : Int).toNat]) rfl
  have he := fun env => hd_eq (st := st) (env := env) wd_wheel wd_wheel
  have hlen := fun env : DL.Env => len_iT (st := st) (env := env) (m := ms)
  have hlt : (ms.length : Int) < 4 := by omega
  have hadd : ∀ env : DL.Env, oAdd env st (iT ms) (.tup [.int (k : Int)]) = .ok (iT (ms ++ [(k : Int)])) st := fun env => by
    have := ev_addT' (env := env) (st := st) (xs := ms.map .int) (ys := [.int (k : Int)]) (by simp; omega)
    rw [show iT (ms ++ [(k : Int)]) = .tup (ms.map .int ++ [.int (k : Int)]) by simp [iT]]
    exact this
  have hw : ∀ ns, (iT ns).isSl = false := fun _ => rfl
  have e1 := fun env : DL.Env => eq_nn (st := st) (env := env)
  have hl1 := lst_one (st := st) (w := "wheel")
  generalize hT : iT (ms ++ [(k : Int)]) = T at *
  have hTs : T.isSl = false := by rw [← hT]; rfl
  generalize hM : iT ms = M at *
  have hMs : M.isSl = false := by rw [← hM]; rfl
  generalize hR : rowD (rwM k) = R at *
  have hRs : R.isSl = false := by rw [← hR]; rfl
  simp [t1_read, l1_read, hh, he, hlen, hlt, hadd, e1, hl1, q1, q2, hTs, hRs, hMs]
theorem read_c {cs : List (Nat × Nat)} {p : Nat × Nat} {n : Nat} {x0 x1 x5 x6 x7 x8 : DL.Slot} (hm : m ≠ []) (h4 : m.length ≤ 4) (hcs : cs.length ≤ 50) (h1 : p.1 < p.2) (h2 : p.2 < m.length) (hl : (lastC cs).1 < p.1 ∨ ((lastC cs).1 = p.1 ∧ (lastC cs).2 + 1 ≤ p.2)) :
    (t1_read (.tup [.int n, rowD (rwC p)]) [x0, x1, .fz (iT m), .fz (cD cs), .fz (.tup []), x5, x6, x7, x8] st).seq (l1_read A) = .nx [x0, x1, .fz (iT m), .fz (cD (cs ++ [p])), .fz (.tup []), .fz (.int n), .fz (rowD (rwC p)), .fz (.lst [.str "carry"]), x8] st := by
  have q1 := p_take_carry (A := A) (st := st) (cs := cs) (W := m.length) (p := p) (x := n) h1 h2 (by omega) (by omega) hl
  have hh := fun (a b : DL.Slot) => head_row (st := st) (env := [x0, x1, .fz (iT m), .fz (cD cs), .fz (.tup []), .fz (.int n), .fz (rowD (rwC p)), a, b]) (f := vr 6) (w := "carry") (ws := [nS p.1, nS p.2]) rfl
  have he1 : ∀ env : DL.Env, oEq env st (.lst [.str "carry"]) (.lst [.str "wheel"]) = .ok (.bl false) st := fun env => by rw [hd_eq wd_carry wd_wheel]; rfl
  have he2 : ∀ env : DL.Env, oEq env st (.lst [.str "carry"]) (.lst [.str "carry"]) = .ok (.bl true) st := fun env => by rw [hd_eq wd_carry wd_carry]; rfl
  have hlen := fun env : DL.Env => len_iT (st := st) (env := env) (m := m)
  have hadd : ∀ env : DL.Env, oAdd env st (cD cs) (.tup [pD p]) = .ok (cD (cs ++ [p])) st := fun env => by
    have := ev_addT' (env := env) (st := st) (xs := cs.map pD) (ys := [pD p]) (by simp; omega)
    rw [show cD (cs ++ [p]) = .tup (cs.map pD ++ [pD p]) by simp [cD]]
    exact this
  have e1 := fun env : DL.Env => eq_nn (st := st) (env := env)
  have e2 := fun env : DL.Env => ne_nn (st := st) (env := env) hm (by omega)
  have hl1 := lst_one (st := st) (w := "wheel")
  have hl2 := lst_one (st := st) (w := "carry")
  have hps : (pD p).isSl = false := rfl
  generalize hT : cD (cs ++ [p]) = T at *
  have hTs : T.isSl = false := by rw [← hT]; rfl
  generalize hM : iT m = M at *
  have hMs : M.isSl = false := by rw [← hM]; rfl
  generalize hC : cD cs = C at *
  have hCs : C.isSl = false := by rw [← hC]; rfl
  generalize hR : rowD (rwC p) = R at *
  have hRs : R.isSl = false := by rw [← hR]; rfl
  generalize hP : pD p = Pp at *
  simp [t1_read, l1_read, hh, he1, he2, hlen, hadd, e1, e2, hl1, hl2, q1, hTs, hRs, hMs, hCs, hps]
theorem read_l {ls : List (List Nat)} {v : List Nat} {n : Nat} {x0 x1 x3 x5 x6 x7 x8 : DL.Slot} (hm : m ≠ []) (h4 : m.length ≤ 4) (hls : ls.length < 4) (hv : v ≠ []) (hs : v.Pairwise (· < ·)) (hlt : ∀ k ∈ v, k < m.length) :
    (t1_read (.tup [.int n, rowD (rwL v)]) [x0, x1, .fz (iT m), x3, .fz (lD ls), x5, x6, x7, x8] st).seq (l1_read A) = .nx [x0, x1, .fz (iT m), x3, .fz (lD (ls ++ [v])), .fz (.int n), .fz (rowD (rwL v)), .fz (.lst [.str "lever"]), x8] st := by
  have q1 := p_take_lever (A := A) (st := st) (v := v) (W := m.length) (x := n) hv hs (by omega) hlt
  have hh := fun (a b : DL.Slot) => head_row (st := st) (env := [x0, x1, .fz (iT m), x3, .fz (lD ls), .fz (.int n), .fz (rowD (rwL v)), a, b]) (f := vr 6) (w := "lever") (ws := v.map nS) rfl
  have he1 : ∀ env : DL.Env, oEq env st (.lst [.str "lever"]) (.lst [.str "wheel"]) = .ok (.bl false) st := fun env => by rw [hd_eq wd_lever wd_wheel]; rfl
  have he2 : ∀ env : DL.Env, oEq env st (.lst [.str "lever"]) (.lst [.str "carry"]) = .ok (.bl false) st := fun env => by rw [hd_eq wd_lever wd_carry]; rfl
  have he3 : ∀ env : DL.Env, oEq env st (.lst [.str "lever"]) (.lst [.str "lever"]) = .ok (.bl true) st := fun env => by rw [hd_eq wd_lever wd_lever]; rfl
  have hlen := fun env : DL.Env => len_iT (st := st) (env := env) (m := m)
  have hlen2 : ∀ env : DL.Env, oLen env st [lD ls] = .ok (.int ls.length) st := fun env => by
    show Res.ok (D.int ((ls.map wD).length : Int)) st = _
    simp
  have hadd : ∀ env : DL.Env, oAdd env st (lD ls) (.tup [wD v]) = .ok (lD (ls ++ [v])) st := fun env => by
    have := ev_addT' (env := env) (st := st) (xs := ls.map wD) (ys := [wD v]) (by simp; omega)
    rw [show lD (ls ++ [v]) = .tup (ls.map wD ++ [wD v]) by simp [lD]]
    exact this
  have hll : (ls.length : Int) < 4 := by omega
  have e2 := fun env : DL.Env => ne_nn (st := st) (env := env) hm (by omega)
  have hl1 := lst_one (st := st) (w := "wheel")
  have hl2 := lst_one (st := st) (w := "carry")
  have hl3 := lst_one (st := st) (w := "lever")
  have hps : (wD v).isSl = false := rfl
  generalize hT : lD (ls ++ [v]) = T at *
  have hTs : T.isSl = false := by rw [← hT]; rfl
  generalize hM : iT m = M at *
  have hMs : M.isSl = false := by rw [← hM]; rfl
  generalize hC : lD ls = C at *
  have hCs : C.isSl = false := by rw [← hC]; rfl
  generalize hR : rowD (rwL v) = R at *
  have hRs : R.isSl = false := by rw [← hR]; rfl
  generalize hP : wD v = Pp at *
  simp [t1_read, l1_read, hh, he1, he2, he3, hlen, hlen2, hll, hadd, e2, hl1, hl2, hl3, q1, hTs, hRs, hMs, hCs, hps]
end HW
namespace HW
open PySem PySem.Spec PyProof.Rows L2 DL
variable {A : Cl} {st : Store} {m : List Int} {c : List (Nat × Nat)} {l : List (List Nat)}
theorem enum_app : ∀ (n : Nat) (as bs : List D), enumFrom n (as ++ bs) = enumFrom n as ++ enumFrom (n + as.length) bs
  | n, [], bs => by simp [enumFrom]
  | n, a :: r, bs => by
    rw [List.cons_append, enumFrom, enum_app (n + 1) r bs, enumFrom, List.cons_append, List.length_cons, show n + 1 + r.length = n + (r.length + 1) by omega]
theorem ph_m : ∀ (xs : List Int) (ms : List Int) (n : Nat) (rest : List D) (x0 x1 x5 x6 x7 x8 : DL.Slot), ms.length + xs.length ≤ 4 → (∀ x ∈ xs, 2 ≤ x ∧ x ≤ 60) →
    ∃ y5 y6 y7, forL t1_read (l1_read A) (enumFrom n (xs.map fun x => rowD (rwM x)) ++ rest) [x0, x1, .fz (iT ms), .fz (.tup []), .fz (.tup []), x5, x6, x7, x8] st = forL t1_read (l1_read A) rest [x0, x1, .fz (iT (ms ++ xs)), .fz (.tup []), .fz (.tup []), y5, y6, y7, x8] st
  | [], ms, n, rest, x0, x1, x5, x6, x7, x8, _, _ => ⟨x5, x6, x7, by simp [enumFrom]⟩
  | x :: xs, ms, n, rest, x0, x1, x5, x6, x7, x8, h1, h2 => by
    obtain ⟨y5, y6, y7, h⟩ := ph_m xs (ms ++ [x]) (n + 1) rest x0 x1 (.fz (.int n)) (.fz (rowD (rwM x))) (.fz (.lst [.str "wheel"])) x8 (by simp at h1 ⊢; omega) fun z hz => h2 z (List.mem_cons_of_mem _ hz)
    refine ⟨y5, y6, y7, ?_⟩
    rw [List.map_cons, enumFrom, List.cons_append, forL_cons (read_m (by simp at h1; omega) (h2 x (by simp))), h, List.append_assoc]
    rfl
theorem lastC_app {cs : List (Nat × Nat)} {p : Nat × Nat} : lastC (cs ++ [p]) = p := by simp [lastC, List.getLastD_eq_getLast?]
theorem lastC_lex {cs : List (Nat × Nat)} {p : Nat × Nat} (h : ∀ q ∈ cs, lexP q p) (hp : p.1 < p.2) : (lastC cs).1 < p.1 ∨ ((lastC cs).1 = p.1 ∧ (lastC cs).2 + 1 ≤ p.2) := by
  by_cases hc : cs = []
  · subst hc
    show (0 < p.1) ∨ (0 = p.1 ∧ 0 + 1 ≤ p.2)
    omega
  · obtain ⟨r, z, rfl⟩ : ∃ r z, cs = r ++ [z] := ⟨cs.dropLast, cs.getLast hc, (List.dropLast_concat_getLast hc).symm⟩
    rw [lastC_app]
    rcases h z (by simp) with h | ⟨h, h2⟩
    · exact .inl h
    · exact .inr ⟨h, by omega⟩
theorem ph_c (hm : m ≠ []) (h4 : m.length ≤ 4) : ∀ (qs cs : List (Nat × Nat)) (n : Nat) (rest : List D) (x0 x1 x5 x6 x7 x8 : DL.Slot), cs.length + qs.length ≤ 50 → (∀ p ∈ qs, p.1 < p.2 ∧ p.2 < m.length) → (cs ++ qs).Pairwise lexP →
    ∃ y5 y6 y7, forL t1_read (l1_read A) (enumFrom n (qs.map fun p => rowD (rwC p)) ++ rest) [x0, x1, .fz (iT m), .fz (cD cs), .fz (.tup []), x5, x6, x7, x8] st = forL t1_read (l1_read A) rest [x0, x1, .fz (iT m), .fz (cD (cs ++ qs)), .fz (.tup []), y5, y6, y7, x8] st
  | [], cs, n, rest, x0, x1, x5, x6, x7, x8, _, _, _ => ⟨x5, x6, x7, by simp [enumFrom]⟩
  | p :: qs, cs, n, rest, x0, x1, x5, x6, x7, x8, h1, h2, h3 => by
    obtain ⟨y5, y6, y7, h⟩ := ph_c hm h4 qs (cs ++ [p]) (n + 1) rest x0 x1 (.fz (.int n)) (.fz (rowD (rwC p))) (.fz (.lst [.str "carry"])) x8 (by simp at h1 ⊢; omega) (fun z hz => h2 z (List.mem_cons_of_mem _ hz)) (by simpa using h3)
    refine ⟨y5, y6, y7, ?_⟩
    have hp := h2 p (by simp)
    have hlex : ∀ q ∈ cs, lexP q p := fun q hq => (List.pairwise_append.mp h3).2.2 q hq p (by simp)
    rw [List.map_cons, enumFrom, List.cons_append, forL_cons (read_c hm h4 (by simp at h1; omega) hp.1 hp.2 (lastC_lex hlex hp.1)), h, List.append_assoc]
    rfl
theorem ph_l (hm : m ≠ []) (h4 : m.length ≤ 4) : ∀ (vs ls : List (List Nat)) (n : Nat) (x0 x1 x3 x5 x6 x7 x8 : DL.Slot), ls.length + vs.length ≤ 4 → (∀ v ∈ vs, v ≠ [] ∧ v.Pairwise (· < ·) ∧ ∀ k ∈ v, k < m.length) →
    ∃ y5 y6 y7, forL t1_read (l1_read A) (enumFrom n (vs.map fun v => rowD (rwL v))) [x0, x1, .fz (iT m), x3, .fz (lD ls), x5, x6, x7, x8] st = .nx [x0, x1, .fz (iT m), x3, .fz (lD (ls ++ vs)), y5, y6, y7, x8] st
  | [], ls, n, x0, x1, x3, x5, x6, x7, x8, _, _ => ⟨x5, x6, x7, by simp [enumFrom, forL]⟩
  | v :: vs, ls, n, x0, x1, x3, x5, x6, x7, x8, h1, h2 => by
    obtain ⟨y5, y6, y7, h⟩ := ph_l hm h4 vs (ls ++ [v]) (n + 1) x0 x1 x3 (.fz (.int n)) (.fz (rowD (rwL v))) (.fz (.lst [.str "lever"])) x8 (by simp at h1 ⊢; omega) fun z hz => h2 z (List.mem_cons_of_mem _ hz)
    refine ⟨y5, y6, y7, ?_⟩
    obtain ⟨k1, k2, k3⟩ := h2 v (by simp)
    rw [List.map_cons, enumFrom, forL_cons (read_l hm h4 (by simp at h1; omega) k1 k2 k3), h, List.append_assoc]
    rfl
theorem joinL_in {S : List Nat} {x : Nat} {p : List Nat} (hx : x ∈ p) : ∀ {ps : List (List Nat)}, p ∈ ps → x ∈ TL.joinL S ps
  | [], h => by cases h
  | [q], h => by
    have : p = q := by simpa using h
    subst this; exact hx
  | q :: z :: r, h => by
    refine List.mem_append.mpr ?_
    rcases List.mem_cons.mp h with h | h
    · subst h; exact .inl hx
    · exact .inr (List.mem_append.mpr (.inr (joinL_in hx h)))
theorem joinL_count {S : List Nat} (hS : 1 ≤ S.length) : ∀ {ps : List (List Nat)}, ps.length ≤ (TL.joinL S ps).length + 1
  | [] => by simp
  | [p] => by simp
  | p :: q :: r => by
    have := joinL_count hS (ps := q :: r)
    show (q :: r).length + 1 ≤ (p ++ (S ++ TL.joinL S (q :: r))).length + 1
    rw [List.length_append, List.length_append]
    omega
theorem sps_split (x y : Str) : TL.joinL (sps y) ((Txt.split x y).map sps) = sps x := by
  rw [← TL.tl_join, StrLaws.join_split]
theorem split_mem {x y p : Str} (h : p ∈ Txt.split x y) {c : Nat} (hc : c ∈ sps p) : c ∈ sps x := by
  rw [← sps_split x y]
  exact joinL_in hc (List.mem_map_of_mem h)
theorem split_count {x y : Str} (h : 1 ≤ (sps y).length) : (Txt.split x y).length ≤ x.length + 1 := by
  have := joinL_count h (ps := (Txt.split x y).map sps)
  rw [sps_split] at this
  rw [str_len]
  simpa using this
theorem split_lines {ls : List Str} (hne : ls ≠ []) (h : ∀ x ∈ ls, 10 ∉ sps x) : Txt.split (Txt.join nlc ls) nlc = ls :=
  TL.split_join (s := 10) (S := []) (by decide) (by decide +kernel) hne h
structure LOk (b : Nat) (x : Str) : Prop where
  lt : ∀ c ∈ sps x, c < 128
  nl : 10 ∉ sps x
  len : x.length ≤ b
def wordsOf (x : Str) : List Str := (Txt.split x spc).filter fun w => !decide (w = "")
theorem lines_len {ls : List Str} {b : Nat} (h : ∀ x ∈ ls, x.length ≤ b) : (Txt.join nlc ls).length ≤ ls.length * (b + 1) := by
  rw [str_len, sps_join]
  have := joinL_len (S := sps nlc) (b := b) (ps := ls.map sps) fun p hp => by
    obtain ⟨w, hw, rfl⟩ := List.mem_map.mp hp
    rw [← str_len]
    exact h w hw
  have e : (sps nlc).length = 1 := by decide
  rw [e] at this
  simpa using this
theorem lc_words {x : Str} (h : LOk 800 x) {i j : Nat} {env : DL.Env} (hj : env[j]? = some (.fz (.str x))) (hi : i < env.length) (ho : notOwned env [i] = true) : frz (lcN (itA (frz (splitN (vr j) (cst (.str " "))))) (nmN i) (tst (bin oNe (vr i) (cst (.str "")))) (vr i) [i]) env st = .ok (rowD (wordsOf x)) st := by
  have hl := h.len
  have hc := split_count (x := x) (y := spc) (by decide)
  have s2 : split2 x (.str " ") st = .ok ((Txt.split x spc).map .str) st := ev_split2 (by decide) (by omega)
  have hit : ∀ xs : List D, itA1 () (.lst xs) st = .ok xs st := fun xs => rfl
  rw [ev_frz, ev_lcN, ev_itA, ev_frz, ev_splitN, ev_vr, hj, slotE_fz, go_ok, ev_split1, ev_cst, go_ok, s2, go_ok, ev_frz1, go_ok, hit, go_ok]
  rw [ev_lc1 (by simp; omega) ho, wipeE_cons, wipeE_nil]
  rw [lcL_filter (F := D.str) (G := D.str) (P := fun w => !decide (w = "")) _ fun w hw => ⟨_, rfl, ?_, ?_, rfl⟩]
  · rfl
  · have hok : PyData.strOk w = true := strOk_of fun c hc => h.lt c (split_mem hw hc)
    have hne : ∀ env : DL.Env, oNe env st (.str w) (.str "") = .ok (.bl (!decide (w = ""))) st := fun env => by
      rw [ne_strs hok (strOk_of (by decide))]
    simp only [ev_tst, ev_bin, ev_vr, ev_cst]
    rw [List.getElem?_set_self (by simpa using hi)]
    simp [hne]
  · simp only [ev_vr]
    rw [List.getElem?_set_self (by simpa using hi)]
    rfl
theorem read_rows {ls : List Str} (hne : ls ≠ []) (hl : ls.length ≤ 60) (hok : ∀ x ∈ ls, LOk 800 x) :
    thenFrz 1 (ownS 1 (lcN (itA (frz (splitN (vr 0) (cst (.str "\n"))))) (nmN 5) yesT (frz (lcN (itA (frz (splitN (vr 5) (cst (.str " "))))) (nmN 8) (tst (bin oNe (vr 8) (cst (.str "")))) (vr 8) [8])) [5])) [.fz (.str (Txt.join nlc ls)), .un, .un, .un, .un, .un, .un, .un, .un] st = .nx [.fz (.str (Txt.join nlc ls)), .fz (.lst ((ls.map wordsOf).map rowD)), .un, .un, .un, .un, .un, .un, .un] st := by
  have hlen := lines_len fun x hx => (hok x hx).len
  have s1 : split2 (Txt.join nlc ls) (.str "\n") st = .ok (ls.map .str) st := by
    have := ev_split2 (x := Txt.join nlc ls) (b := "\n") (s := st) (by decide) (by omega)
    rw [this]
    congr 1
    rw [show ("\n" : Str) = nlc from rfl, split_lines hne fun x hx => (hok x hx).nl]
  have hit : ∀ xs : List D, itA1 () (.lst xs) st = .ok xs st := fun xs => rfl
  rw [ev_thenFrz, ev_ownS, ev_lcN, ev_itA, ev_frz, ev_splitN, ev_vr, List.getElem?_cons_zero, slotE_fz, go_ok, ev_split1, ev_cst, go_ok, s1, go_ok, ev_frz1, go_ok, hit, go_ok, ev_lc1 (by simp; omega) (by simp), wipeE_cons, wipeE_nil]
  have hc := lcL_map (g := nmN 5) (t := yesT) (el := frz (lcN (itA (frz (splitN (vr 5) (cst (.str " "))))) (nmN 8) (tst (bin oNe (vr 8) (cst (.str "")))) (vr 8) [8])) (env0 := [.fz (.str (Txt.join nlc ls)), .un, .un, .un, .un, .un, .un, .un, .un]) (st := st) (F := D.str) (G := fun x => rowD (wordsOf x)) ls fun x hx => ⟨[.fz (.str (Txt.join nlc ls)), .un, .un, .un, .un, .fz (.str x), .un, .un, .un], rfl, rfl, lc_words (hok x hx) rfl (by simp) rfl, rfl⟩
  have e : [DL.Slot.fz (D.str (Txt.join nlc ls)), .un, .un, .un, .un, .un, .un, .un, .un].set 5 DL.Slot.un = [.fz (.str (Txt.join nlc ls)), .un, .un, .un, .un, .un, .un, .un, .un] := rfl
  rw [e, hc]
  have hns : noSl ((ls.map wordsOf).map rowD) = true := noSl_map (fun _ => rfl) _
  simp only [gS_ok, ev_ownS1, List.set_cons_succ, List.set_cons_zero, seq_nx, ev_thenK, List.getElem?_cons_succ, List.getElem?_cons_zero, ev_thF, List.map_map]
  rfl
theorem p_readL (P : PartsOk m c l) (H : stBel st.length st = true) {ls : List Str} (hne : ls ≠ []) (hll0 : ls.length ≤ 60) (hok : ∀ x ∈ ls, LOk 800 x) (hw : ls.map wordsOf = rowsW m c l) : φ_read A [.str (Txt.join nlc ls)] st = .ok (boardD A m c l) st := by
  have h4 := P.four
  have h1 := P.one
  have hm : m ≠ [] := fun e => by rw [e] at h1; simp at h1
  have hcl := P.clen
  have hll := P.levs.few
  have hrow : (rowsW m c l).map rowD = m.map (fun x => rowD (rwM x)) ++ (c.map (fun p => rowD (rwC p)) ++ l.map (fun v => rowD (rwL v))) := by simp [rowsW, Function.comp_def]
  have key : ∀ x1 : DL.Slot, ∃ y5 y6 y7, forL t1_read (l1_read A) (enumFrom 1 ((rowsW m c l).map rowD)) [.fz (.str (Txt.join nlc ls)), x1, .fz (.tup []), .fz (.tup []), .fz (.tup []), .un, .un, .un, .un] st = .nx [.fz (.str (Txt.join nlc ls)), x1, .fz (iT m), .fz (cD c), .fz (lD l), y5, y6, y7, .un] st := fun x1 => by
    rw [hrow, enum_app, enum_app]
    obtain ⟨a5, a6, a7, ha⟩ := ph_m (A := A) (st := st) m [] 1 (enumFrom (1 + (m.map fun x => rowD (rwM x)).length) (c.map fun p => rowD (rwC p)) ++ enumFrom (1 + (m.map fun x => rowD (rwM x)).length + (c.map fun p => rowD (rwC p)).length) (l.map fun v => rowD (rwL v))) (.fz (.str (Txt.join nlc ls))) x1 .un .un .un .un (by simpa using h4) P.good.pos
    obtain ⟨b5, b6, b7, hb⟩ := ph_c (A := A) (st := st) hm h4 c [] (1 + (m.map fun x => rowD (rwM x)).length) (enumFrom (1 + (m.map fun x => rowD (rwM x)).length + (c.map fun p => rowD (rwC p)).length) (l.map fun v => rowD (rwL v))) (.fz (.str (Txt.join nlc ls))) x1 a5 a6 a7 .un (by simp; omega) P.good.up (by simpa using P.lex)
    obtain ⟨d5, d6, d7, hd⟩ := ph_l (A := A) (st := st) hm h4 l [] (1 + (m.map fun x => rowD (rwM x)).length + (c.map fun p => rowD (rwC p)).length) (.fz (.str (Txt.join nlc ls))) x1 (.fz (cD c)) b5 b6 b7 .un (by simpa using hll) fun v hv => ⟨P.levs.ne v hv, P.levs.srt v hv, P.levs.lt v hv⟩
    refine ⟨d5, d6, d7, ?_⟩
    exact (ha.trans hb).trans hd
  obtain ⟨y5, y6, y7, q2⟩ := key (.fz (.lst ((rowsW m c l).map rowD)))
  have q3 : ∀ env : DL.Env, oEq env st (lD l) (.tup []) = .ok (.bl false) st := fun env => by
    have hp : (lD l).plain 2 = true := by
      have : plainL 1 (l.map wD) = true := by
        have key : ∀ l : List (List Nat), (∀ v ∈ l, v.length ≤ 1000) → plainL 1 (l.map wD) = true := by
          intro l
          induction l with
          | nil => intro _; rfl
          | cons v r ih =>
            intro h
            rw [List.map_cons, plainL_cons, ih fun z hz => h z (List.mem_cons_of_mem _ hz), plain_wD (h v (by simp))]; rfl
        exact key l fun v hv => by have := sorted_le (P.levs.srt v hv) (P.levs.lt v hv); omega
      simp [lD, this]; omega
    have := eq_nilU (env := env) (st := st) (xs := l.map wD) (n := 2) hp (by omega)
    rw [show lD l = .tup (l.map wD) from rfl, this]
    have : l ≠ [] := fun e => by have := P.levs.some_; rw [e] at this; simp at this
    simp [this]
  have hmk := fun (e : DL.Env) (he : consA (vr 2) (consA (vr 3) (consA (vr 4) nilA)) e st = .ok [iT m, cD c, lD l] st) => p_mk2 (A := A) P H he
  have e0 : φ_read A [.str (Txt.join nlc ls)] st = fin (b_read A [.fz (.str (Txt.join nlc ls)), .un, .un, .un, .un, .un, .un, .un, .un] st) := by simp [φ_read]
  rw [e0]
  unfold b_read
  have hns : noSl ((rowsW m c l).map rowD) = true := noSl_map (fun _ => rfl) _
  have s1 := read_rows (st := st) hne hll0 hok
  rw [hw] at s1
  rw [ev_seqS, s1, seq_nx]
  have hm2 := hmk [.fz (.str (Txt.join nlc ls)), .fz (.lst ((rowsW m c l).map rowD)), .fz (iT m), .fz (cD c), .fz (lD l), y5, y6, y7, .un] rfl
  have hb : (boardD A m c l).isSl = false := rfl
  simp [q2, q3, hm2, hb]
end HW
namespace HW
open PySem PySem.Spec PyProof.Rows L2 DL
/-! ### further spaces -/
theorem joinL_cons {S p : List Nat} {qs : List (List Nat)} (h : qs ≠ []) : TL.joinL S (p :: qs) = p ++ (S ++ TL.joinL S qs) := by
  cases qs with
  | nil => exact absurd rfl h
  | cons q r => rfl
theorem joinL_front {qs : List (List Nat)} (h : qs ≠ []) : ∀ a, TL.joinL [32] (List.replicate a [] ++ qs) = List.replicate a 32 ++ TL.joinL [32] qs
  | 0 => rfl
  | a + 1 => by
    have hne : List.replicate a [] ++ qs ≠ [] := fun e => h (List.append_eq_nil_iff.mp e).2
    rw [List.replicate_succ, List.cons_append, joinL_cons hne, joinL_front h a, List.replicate_succ]
    rfl
theorem joinL_back {b : Nat} : ∀ {qs : List (List Nat)}, qs ≠ [] → TL.joinL [32] (qs ++ List.replicate b []) = TL.joinL [32] qs ++ List.replicate b 32
  | [], h => absurd rfl h
  | [p], _ => by
    cases b with
    | zero => simp
    | succ b =>
      have h1 : List.replicate (b + 1) ([] : List Nat) ≠ [] := by simp
      rw [show [p] ++ List.replicate (b + 1) ([] : List Nat) = p :: List.replicate (b + 1) [] from rfl, joinL_cons h1]
      have h2 : ∀ b, [32] ++ TL.joinL [32] (List.replicate (b + 1) ([] : List Nat)) = List.replicate (b + 1) 32 := by
        intro b
        induction b with
        | zero => rfl
        | succ b ih =>
          have h3 : List.replicate (b + 1) ([] : List Nat) ≠ [] := by simp
          rw [List.replicate_succ, joinL_cons h3, List.nil_append, ih]
          rfl
      rw [h2 b]; rfl
  | p :: q :: r, _ => by
    have h1 : q :: r ++ List.replicate b ([] : List Nat) ≠ [] := by simp
    have h2 : q :: r ≠ [] := by simp
    rw [List.cons_append, joinL_cons h1, joinL_back h2, joinL_cons h2]
    simp only [List.append_assoc]
theorem joinL_wide {k : Nat} : ∀ (r : List (List Nat)) (p : List Nat), TL.joinL [32] (p :: r.flatMap fun v => List.replicate k [] ++ [v]) = TL.joinL (List.replicate (k + 1) 32) (p :: r)
  | [], p => rfl
  | v :: r, p => by
    have e : (v :: r).flatMap (fun v => List.replicate k ([] : List Nat) ++ [v]) = List.replicate k [] ++ (v :: r.flatMap fun v => List.replicate k [] ++ [v]) := by simp
    have h1 : List.replicate k ([] : List Nat) ++ (v :: r.flatMap fun v => List.replicate k [] ++ [v]) ≠ [] := by simp
    have h2 : (v :: r.flatMap fun v => List.replicate k ([] : List Nat) ++ [v]) ≠ [] := by simp
    have h3 : v :: r ≠ [] := by simp
    rw [e, joinL_cons h1, joinL_front h2, joinL_wide r v, joinL_cons h3, List.replicate_succ]
    simp only [List.append_assoc, List.cons_append, List.nil_append]
def noW : Str := ""
/-- words with empty ones between -/
def spread (a k b : Nat) : List Str → List Str
  | [] => []
  | w :: r => List.replicate a noW ++ ((w :: r.flatMap fun v => List.replicate k noW ++ [v]) ++ List.replicate b noW)
theorem spread_words {a k b : Nat} {ws : List Str} (h : ∀ w ∈ ws, Wd w) : (spread a k b ws).filter (fun w : Str => !decide (w = "")) = ws := by
  have hr : ∀ n, (List.replicate n noW).filter (fun w : Str => !decide (w = "")) = [] := fun n => by
    rw [List.filter_eq_nil_iff]
    intro w hw
    have e : w = "" := List.eq_of_mem_replicate hw
    simp [e]
  have hk : ∀ w : Str, Wd w → (!decide (w = "")) = true := fun w hw => by
    have : ¬ w = "" := fun e => hw.ne (by rw [e]; decide)
    simp [this]
  cases ws with
  | nil => rfl
  | cons w r =>
    have h2 : ∀ r : List Str, (∀ w ∈ r, Wd w) → (r.flatMap fun v => List.replicate k noW ++ [v]).filter (fun w : Str => !decide (w = "")) = r := by
      intro r
      induction r with
      | nil => intro _; rfl
      | cons v r ih =>
        intro h
        rw [List.flatMap_cons, List.filter_append, List.filter_append, hr, ih fun z hz => h z (List.mem_cons_of_mem _ hz)]
        rw [List.filter_cons, if_pos (hk v (h v (by simp)))]
        rfl
    unfold spread
    rw [List.filter_append, hr, List.filter_append, hr, List.filter_cons, if_pos (hk w (h w (by simp))), h2 r fun z hz => h z (List.mem_cons_of_mem _ hz)]
    simp
theorem spread_in {a k b : Nat} {ws : List Str} {w : Str} (h : w ∈ spread a k b ws) : w = noW ∨ w ∈ ws := by
  cases ws with
  | nil => cases h
  | cons x r =>
    unfold spread at h
    rcases List.mem_append.mp h with h | h
    · exact .inl (List.eq_of_mem_replicate h)
    · rcases List.mem_append.mp h with h | h
      · rcases List.mem_cons.mp h with h | h
        · exact .inr (by simp [h])
        · obtain ⟨v, hv, h⟩ := List.mem_flatMap.mp h
          rcases List.mem_append.mp h with h | h
          · exact .inl (List.eq_of_mem_replicate h)
          · exact .inr (List.mem_cons_of_mem _ (by have : w = v := by simpa using h
                                                   exact this ▸ hv))
      · exact .inl (List.eq_of_mem_replicate h)
theorem sps_empty : sps noW = [] := by decide
theorem spread_sps {a k b : Nat} {ws : List Str} (h : ws ≠ []) : TL.joinL [32] ((spread a k b ws).map sps) = List.replicate a 32 ++ (TL.joinL (List.replicate (k + 1) 32) (ws.map sps) ++ List.replicate b 32) := by
  cases ws with
  | nil => exact absurd rfl h
  | cons w r =>
    have e : (spread a k b (w :: r)).map sps = List.replicate a [] ++ ((sps w :: (r.map sps).flatMap fun v => List.replicate k [] ++ [v]) ++ List.replicate b []) := by
      unfold spread
      simp [sps_empty, List.flatMap_map, List.map_flatMap]
    rw [e, joinL_front (by simp), joinL_back (by simp), joinL_wide, List.map_cons]
theorem spc_one : (" " : Str) = ⟨#[32]⟩ := by decide
theorem sps_rep {k : Nat} (h : k ≤ 3) : sps (repS " " (k : Int)) = List.replicate k 32 := by
  match k, h with
  | 0, _ => decide
  | 1, _ => decide
  | 2, _ => decide
  | 3, _ => decide
theorem replace_ln {ws : List Str} (hne : ws ≠ []) (h : ∀ w ∈ ws, Wd w) (R : Str) : Txt.replace (ln ws) " " R = Txt.join R ws := by
  rw [spc_one, StrLaws.replace_one, ← spc_one, show (" " : Str) = spc from rfl, split_ln hne h, TL.join_eq]
/-- a line with further spaces -/
def wideW (a k b : Nat) (ws : List Str) : Str := repS " " (a : Int) ++ Txt.replace (ln ws) " " (repS " " ((k + 1 : Nat) : Int)) ++ repS " " (b : Int)
theorem wide_eq {a k b : Nat} {ws : List Str} (ha : a ≤ 3) (hk : k + 1 ≤ 3) (hb : b ≤ 3) (hne : ws ≠ []) (h : ∀ w ∈ ws, Wd w) : wideW a k b ws = Txt.join spc (spread a k b ws) := by
  refine ext_s ?_
  unfold wideW
  rw [sps_app, sps_app, replace_ln hne h, sps_join, sps_join, sps_rep ha, sps_rep hk, sps_rep hb, show sps spc = [32] by decide, spread_sps hne, List.append_assoc]
theorem wide_words {a k b : Nat} {ws : List Str} (ha : a ≤ 3) (hk : k + 1 ≤ 3) (hb : b ≤ 3) (hne : ws ≠ []) (h : ∀ w ∈ ws, Wd w) : wordsOf (wideW a k b ws) = ws := by
  unfold wordsOf
  have hs : Txt.split (Txt.join spc (spread a k b ws)) spc = spread a k b ws := by
    refine TL.split_join (s := 32) (S := []) (by decide) (by decide +kernel) ?_ fun w hw => ?_
    · cases ws with
      | nil => exact absurd rfl hne
      | cons w r => simp [spread]
    · rcases spread_in hw with rfl | hw
      · decide
      · exact (h w hw).sp
  rw [wide_eq ha hk hb hne h, hs, spread_words h]
theorem ln_words {ws : List Str} (hne : ws ≠ []) (h : ∀ w ∈ ws, Wd w) : wordsOf (ln ws) = ws := by
  unfold wordsOf
  rw [split_ln hne h, List.filter_eq_self.mpr]
  intro w hw
  have : ¬ w = "" := fun e => (h w hw).ne (by rw [e]; decide)
  simp [this]
end HW
namespace DL
open PySem PySem.Spec PyProof.Rows L2
theorem ev_addS {env : Env} {st : Store} {a b : Str} (h : a.length + b.length ≤ 100000) : oAdd env st (.str a) (.str b) = .ok (.str (a ++ b)) st := if_pos (Nat.le_trans h (by decide))
theorem ev_mulS {env : Env} {st : Store} {c : Str} {k : Int} (h0 : 0 ≤ k) (h1 : k ≤ 1000) (hc : c.length ≤ 1000) : oMulS env st (.str c) (.int k) = .ok (.str (repS c k)) st := if_pos ⟨h0, h1, hc⟩
mutual
theorem plain_more : ∀ (k : Nat) (d : D), d.plain k = true → d.plain (k + 1) = true
  | _, .non, _ => rfl
  | _, .bl _, _ => rfl
  | _, .int _, _ => rfl
  | _, .str x, h => by simpa [D.plain] using h
  | 0, .tup _, h => by simp [D.plain] at h
  | 0, .lst _, h => by simp [D.plain] at h
  | k + 1, .tup xs, h => by
    simp only [D.plain, Bool.and_eq_true] at h ⊢
    exact ⟨h.1, plainL_more k xs h.2⟩
  | k + 1, .lst xs, h => by
    simp only [D.plain, Bool.and_eq_true] at h ⊢
    exact ⟨h.1, plainL_more k xs h.2⟩
  | k, .sl _, h => by cases k <;> simp [D.plain] at h
  | k, .own _, h => by cases k <;> simp [D.plain] at h
  | k, .ins _ _, h => by cases k <;> simp [D.plain] at h
  | k, .ty _, h => by cases k <;> simp [D.plain] at h
  | k, .cls _, h => by cases k <;> simp [D.plain] at h
  | k, .dic _, h => by cases k <;> simp [D.plain] at h
  | k, .mtp _, h => by cases k <;> simp [D.plain] at h
  | k, .scr _, h => by cases k <;> simp [D.plain] at h
theorem plainL_more : ∀ (k : Nat) (xs : List D), plainL k xs = true → plainL (k + 1) xs = true
  | _, [], _ => rfl
  | k, d :: r, h => by
    simp only [plainL, Bool.and_eq_true] at h ⊢
    exact ⟨plain_more k d h.1, plainL_more k r h.2⟩
end
end DL
namespace HW
open PySem PySem.Spec PyProof.Rows L2 DL
variable {A : Cl} {st : Store} {m : List Int} {c : List (Nat × Nat)} {l : List (List Nat)}
theorem cat_wheel {n : Nat} : ("wheel " : Str) ++ nS n = ln ["wheel", nS n] := by
  refine ext_s ?_
  unfold ln
  rw [sps_join, sps_app, show sps ("wheel " : Str) = sps ("wheel" : Str) ++ sps spc by decide]
  simp [TL.joinL]
theorem cat_carry {n k : Nat} : (("carry " : Str) ++ nS n ++ " ") ++ nS k = ln ["carry", nS n, nS k] := by
  refine ext_s ?_
  unfold ln
  rw [sps_join, sps_app, sps_app, sps_app, show sps ("carry " : Str) = sps ("carry" : Str) ++ sps spc by decide]
  simp [TL.joinL, show sps (" " : Str) = sps spc from rfl]
theorem txt_ok (P : PartsOk m c l) : PyData.strOk (txt m c l) = true := strOk_of fun k hk => by
  unfold txt at hk
  rw [sps_join] at hk
  rcases joinL_mem hk with h | ⟨p, hp, h⟩
  · have : ∀ k ∈ sps nlc, k < 128 := by decide
    exact this k h
  · obtain ⟨w, hw, rfl⟩ := List.mem_map.mp hp
    obtain ⟨r, hr, rfl⟩ := List.mem_map.mp hw
    have hw := (wd_rows P r hr).2.2
    unfold ln at h
    rw [sps_join] at h
    rcases joinL_mem h with h | ⟨q, hq, h⟩
    · have : ∀ k ∈ sps spc, k < 128 := by decide
      exact this k h
    · obtain ⟨z, hz, rfl⟩ := List.mem_map.mp hq
      exact (hw z hz).lt k h
theorem ln_ok {ws : List Str} (h : ∀ w ∈ ws, Wd w) (hl : ws.length ≤ 10) : LOk 800 (ln ws) := by
  refine ⟨fun k hk => ?_, ln_nl h, by have := ln_len h; omega⟩
  unfold ln at hk
  rw [sps_join] at hk
  rcases joinL_mem hk with hk | ⟨p, hp, hk⟩
  · have : ∀ k ∈ sps spc, k < 128 := by decide
    exact this k hk
  · obtain ⟨w, hw, rfl⟩ := List.mem_map.mp hp
    exact (h w hw).lt k hk
theorem rep_len {k : Nat} (h : k ≤ 3) : (repS " " (k : Int)).length = k := by
  rw [str_len, sps_rep h, List.length_replicate]
theorem wide_ok {a k b : Nat} {ws : List Str} (ha : a ≤ 3) (hk : k + 1 ≤ 3) (hb : b ≤ 3) (hne : ws ≠ []) (h : ∀ w ∈ ws, Wd w) (hl : ws.length ≤ 10) : LOk 800 (wideW a k b ws) := by
  have e : sps (wideW a k b ws) = List.replicate a 32 ++ (TL.joinL (List.replicate (k + 1) 32) (ws.map sps) ++ List.replicate b 32) := by
    rw [wide_eq ha hk hb hne h, sps_join, show sps spc = [32] by decide, spread_sps hne]
  have hin : ∀ x ∈ sps (wideW a k b ws), x = 32 ∨ ∃ w ∈ ws, x ∈ sps w := fun x hx => by
    rw [e] at hx
    rcases List.mem_append.mp hx with hx | hx
    · exact .inl (List.eq_of_mem_replicate hx)
    · rcases List.mem_append.mp hx with hx | hx
      · rcases joinL_mem hx with hx | ⟨p, hp, hx⟩
        · exact .inl (List.eq_of_mem_replicate hx)
        · obtain ⟨w, hw, rfl⟩ := List.mem_map.mp hp
          exact .inr ⟨w, hw, hx⟩
      · exact .inl (List.eq_of_mem_replicate hx)
  refine ⟨fun x hx => ?_, fun hx => ?_, ?_⟩
  · rcases hin x hx with rfl | ⟨w, hw, hx⟩
    · decide
    · exact (h w hw).lt x hx
  · rcases hin 10 hx with hx | ⟨w, hw, hx⟩
    · revert hx; decide
    · exact (h w hw).nl hx
  · have hj := joinL_len (S := List.replicate (k + 1) 32) (b := 10) (ps := ws.map sps) fun p hp => by
      obtain ⟨w, hw, rfl⟩ := List.mem_map.mp hp
      rw [← str_len]; exact (h w hw).len
    rw [str_len, e]
    simp only [List.length_append, List.length_replicate, List.length_map] at hj ⊢
    have : ws.length * (10 + (k + 1)) ≤ 10 * 13 := Nat.mul_le_mul hl (by omega)
    omega
/-- one turn of the loop of lines -/
theorem room_step (H : HS st) {ws : List Str} {r : List Str} (hr : r.length ≤ 10 ∧ r ≠ [] ∧ ∀ w ∈ r, Wd w) (hw : ws.length ≤ 100) {x0 x2 x3 x4 x5 x6 x7 x8 x10 x11 x12 x13 x14 x15 x16 x17 x18 x19 : DL.Slot} :
    ∃ (s2 : Store) (y : Str) (z11 z12 : DL.Slot), (t2_law (.str (ln r)) [x0, .fz (.own 1), x2, x3, x4, x5, x6, x7, x8, .ol (ws.map .str), x10, x11, x12, x13, x14, x15, x16, x17, x18, x19] st).seq (l2_law A) = .nx [x0, .fz (.own 1), x2, x3, x4, x5, x6, x7, x8, .ol ((ws ++ [y]).map .str), .fz (.str (ln r)), z11, z12, x13, x14, x15, x16, x17, x18, x19] s2 ∧ HS s2 ∧ wordsOf y = r ∧ LOk 800 y := by
  obtain ⟨h10, hne, hwd⟩ := hr
  obtain ⟨k, s2, q1, H2, k0, k1⟩ := p_law_next (A := A) H (cap := 3) (by omega) (by omega)
  obtain ⟨a, s3, q2, H3, a0, a1⟩ := p_law_next (A := A) H2 (cap := 3) (by omega) (by omega)
  obtain ⟨b, s4, q3, H4, b0, b1⟩ := p_law_next (A := A) H3 (cap := 2) (by omega) (by omega)
  obtain ⟨k, rfl⟩ : ∃ n : Nat, k = n := ⟨k.toNat, by omega⟩
  obtain ⟨a, rfl⟩ : ∃ n : Nat, a = n := ⟨a.toNat, by omega⟩
  obtain ⟨b, rfl⟩ : ∃ n : Nat, b = n := ⟨b.toNat, by omega⟩
  have hk : (1 : Int) + (k : Int) = ((k + 1 : Nat) : Int) := by omega
  refine ⟨s4, wideW a k b r, .fz (.str (repS " " ((k + 1 : Nat) : Int))), .ol [.str (repS " " (a : Int)), .str (repS " " (b : Int))], ?_, H4, wide_words (by omega) (by omega) (by omega) hne hwd, wide_ok (by omega) (by omega) (by omega) hne hwd h10⟩
  have e1 : t2_law (.str (ln r)) [x0, .fz (.own 1), x2, x3, x4, x5, x6, x7, x8, .ol (ws.map .str), x10, x11, x12, x13, x14, x15, x16, x17, x18, x19] st = .nx [x0, .fz (.own 1), x2, x3, x4, x5, x6, x7, x8, .ol (ws.map .str), .fz (.str (ln r)), x11, x12, x13, x14, x15, x16, x17, x18, x19] st := by
    simp [t2_law]
  rw [e1, seq_nx]
  obtain ⟨E, hE⟩ : ∃ E : DL.Env, E = [x0, .fz (.own 1), x2, x3, x4, x5, x6, x7, x8, .ol (ws.map .str), .fz (.str (ln r)), x11, x12, x13, x14, x15, x16, x17, x18, x19] := ⟨_, rfl⟩
  rw [← hE]
  have g0 : bin oAdd (cst (.int 1)) (app 2 (φ_law_next A) (consA (vr 1) (consA (cst (.int 3)) nilA))) E st = .ok (.int ((k + 1 : Nat) : Int)) s2 := by
    rw [hE]
    simp only [ev_bin, ev_cst, go_ok, ev_bin1]
    simp [q1]
    omega
  have m1 : ∀ (env : DL.Env) (s : Store), oMulS env s (.str " ") (.int (a : Int)) = .ok (.str (repS " " (a : Int))) s := fun env s => ev_mulS (by omega) (by omega) (by decide)
  have m2 : ∀ (env : DL.Env) (s : Store), oMulS env s (.str " ") (.int (b : Int)) = .ok (.str (repS " " (b : Int))) s := fun env s => ev_mulS (by omega) (by omega) (by decide)
  have gL : lstN (consA (bin oMulS (cst (.str " ")) (app 2 (φ_law_next A) (consA (vr 1) (consA (cst (.int 3)) nilA)))) (consA (bin oMulS (cst (.str " ")) (app 2 (φ_law_next A) (consA (vr 1) (consA (cst (.int 2)) nilA)))) nilA)) E s2 = .ok [.str (repS " " (a : Int)), .str (repS " " (b : Int))] s4 := by
    rw [hE]
    have hl : lst1 () [D.str (repS " " (a : Int)), .str (repS " " (b : Int))] s4 = .ok [.str (repS " " (a : Int)), .str (repS " " (b : Int))] s4 := ev_lst1 (by simp) (by simp)
    simp [q2, q3, m1, m2, hl]
  unfold l2_law roomS
  rw [g0]
  simp only [Res.toS]
  rw [if_pos (by omega), gL]
  simp only [Res.toS]
  unfold wideS
  rw [hE]
  simp only [List.set_cons_succ, List.set_cons_zero, List.getElem?_cons_succ, List.getElem?_cons_zero]
  have hln := ln_len hwd
  rw [if_pos ⟨by simp; omega, by rw [rep_len (by omega)]; omega, by rw [rep_len (by omega)]; omega, by omega, by rw [rep_len (by omega)]; omega⟩]
  simp [wideW]
end HW
namespace HW
open PySem PySem.Spec PyProof.Rows L2 DL
variable {A : Cl} {st : Store} {m : List Int} {c : List (Nat × Nat)} {l : List (List Nat)}
variable {x0 x1 x2 x6 x7 x8 x9 x10 x11 x12 x13 x14 : DL.Slot}
/-- lines of wheels -/
theorem lines_m (P : PartsOk m c l) : thenFrz 6 (ownS 6 (lcN (itA (vr 3)) (nmN 15) yesT (bin oAdd (cst (.str "wheel ")) (cal oStrI (consA (vr 15) nilA))) [15])) [x0, x1, x2, .fz (iT m), .fz (cD c), .fz (lD l), x6, x7, x8, x9, x10, x11, x12, x13, x14, .un, .un, .un, .un, .un] st =
    .nx [x0, x1, x2, .fz (iT m), .fz (cD c), .fz (lD l), .fz (.lst (((m.map rwM).map ln).map .str)), x7, x8, x9, x10, x11, x12, x13, x14, .un, .un, .un, .un, .un] st := by
  have h4 := P.four
  have hit : itA1 () (iT m) st = .ok (m.map .int) st := rfl
  have hc : lc1 (nmN 15, yesT, bin oAdd (cst (.str "wheel ")) (cal oStrI (consA (vr 15) nilA)), [15], [x0, x1, x2, .fz (iT m), .fz (cD c), .fz (lD l), x6, x7, x8, x9, x10, x11, x12, x13, x14, .un, .un, .un, .un, .un]) (m.map .int) st = .ok (((m.map rwM).map ln).map .str) st := by
    rw [ev_lc1 (by simp; omega) (by simp), wipeE_cons, wipeE_nil, lcL_map (F := D.int) (G := fun x => .str (ln (rwM x))) m fun x hx => ⟨_, rfl, rfl, ?_, rfl⟩]
    · simp [Function.comp_def]
    · have hp := P.good.pos x hx
      obtain ⟨n, rfl⟩ : ∃ n : Nat, x = (n : Int) := ⟨x.toNat, by omega⟩
      have h1 : ∀ env : DL.Env, oStrI env st [.int (n : Int)] = .ok (.str (nS n)) st := fun env => ev_strI (log_n (by omega))
      have h2 : ∀ env : DL.Env, oAdd env st (.str "wheel ") (.str (nS n)) = .ok (.str (ln (rwM (n : Int)))) st := fun env => by
        have := (wd_n (n := n) (by omega)).len
        have e6 : ("wheel " : Str).length = 6 := by decide
        rw [ev_addS (by omega), cat_wheel]; rfl
      simp [h1, h2]
  simp [hit, hc]
/-- lines of carries -/
theorem lines_c (P : PartsOk m c l) {ls : List Str} (hl : ls.length ≤ 100) : setS 6 (bin oAdd (vr 6) (frz (lcN (itA (vr 4)) (tupN 2 (consN (nmN 16) (consN (nmN 17) nilN))) yesT (bin oAdd (bin oAdd (bin oAdd (cst (.str "carry ")) (cal oStrI (consA (vr 16) nilA))) (cst (.str " "))) (cal oStrI (consA (vr 17) nilA))) [16, 17]))) [x0, x1, x2, .fz (iT m), .fz (cD c), .fz (lD l), .fz (.lst (ls.map .str)), x7, x8, x9, x10, x11, x12, x13, x14, .un, .un, .un, .un, .un] st =
    .nx [x0, x1, x2, .fz (iT m), .fz (cD c), .fz (lD l), .fz (.lst ((ls ++ (c.map rwC).map ln).map .str)), x7, x8, x9, x10, x11, x12, x13, x14, .un, .un, .un, .un, .un] st := by
  have h4 := P.four
  have hcl := P.clen
  have hit : itA1 () (cD c) st = .ok (c.map pD) st := rfl
  have hc : lc1 (tupN 2 (consN (nmN 16) (consN (nmN 17) nilN)), yesT, bin oAdd (bin oAdd (bin oAdd (cst (.str "carry ")) (cal oStrI (consA (vr 16) nilA))) (cst (.str " "))) (cal oStrI (consA (vr 17) nilA)), [16, 17], [x0, x1, x2, .fz (iT m), .fz (cD c), .fz (lD l), .fz (.lst (ls.map .str)), x7, x8, x9, x10, x11, x12, x13, x14, .un, .un, .un, .un, .un]) (c.map pD) st = .ok (((c.map rwC).map ln).map .str) st := by
    rw [ev_lc1 (by simp; omega) (by simp), wipeE_cons, wipeE_cons, wipeE_nil, lcL_map (F := pD) (G := fun p => .str (ln (rwC p))) c fun p hp => ⟨_, rfl, rfl, ?_, rfl⟩]
    · simp [Function.comp_def]
    · have hp := P.good.up p hp
      have l1 := (wd_n (n := p.1) (by omega)).len
      have l2 := (wd_n (n := p.2) (by omega)).len
      have e6 : ("carry " : Str).length = 6 := by decide
      have e1 : (" " : Str).length = 1 := by decide
      have h1 : ∀ env : DL.Env, oStrI env st [.int (p.1 : Int)] = .ok (.str (nS p.1)) st := fun env => ev_strI (log_n (by omega))
      have h2 : ∀ env : DL.Env, oStrI env st [.int (p.2 : Int)] = .ok (.str (nS p.2)) st := fun env => ev_strI (log_n (by omega))
      have h3 : ∀ env : DL.Env, oAdd env st (.str "carry ") (.str (nS p.1)) = .ok (.str ("carry " ++ nS p.1)) st := fun env => ev_addS (by omega)
      have h5 : ∀ env : DL.Env, oAdd env st (.str ("carry " ++ nS p.1)) (.str " ") = .ok (.str ("carry " ++ nS p.1 ++ " ")) st := fun env => ev_addS (by rw [app_len]; omega)
      have h6 : ∀ env : DL.Env, oAdd env st (.str ("carry " ++ nS p.1 ++ " ")) (.str (nS p.2)) = .ok (.str (ln (rwC p))) st := fun env => by
        rw [ev_addS (by rw [app_len, app_len]; omega), cat_carry]; rfl
      simp only [ev_bin, ev_cst, go_ok, ev_bin1, ev_cal, ev_consA, ev_vr, List.set_cons_succ, List.set_cons_zero, List.getElem?_cons_succ, List.getElem?_cons_zero, slotE_fz, ev_cons1, ev_nilA, ev_cons2, ev_cal1, h1, h2, ev_bin2, h3, h5, h6]
  have hcat : ∀ env : DL.Env, oAdd env st (.lst (ls.map .str)) (.lst (((c.map rwC).map ln).map .str)) = .ok (.lst ((ls ++ (c.map rwC).map ln).map .str)) st := fun env => by
    rw [List.map_append]
    exact ev_catO (by simp; omega)
  have hns : (D.lst ((ls ++ (c.map rwC).map ln).map .str)).isSl = false := rfl
  rw [ev_setS, ev_bin, ev_vr]
  simp only [List.getElem?_cons_succ, List.getElem?_cons_zero, slotE_fz, go_ok, ev_bin1, ev_frz, ev_lcN, ev_itA, ev_vr, hit, hc, ev_frz1, ev_bin2, hcat, gS_ok, ev_setS1, hns, Bool.false_eq_true, if_false, List.set_cons_succ, List.set_cons_zero]
/-- lines of levers -/
theorem lines_l (P : PartsOk m c l) {ls : List Str} (hl : ls.length ≤ 100) : setS 6 (bin oAdd (vr 6) (frz (lcN (itA (vr 5)) (nmN 18) yesT (joinV (cst (.str " ")) (bin oAdd (frz (lstN (consA (cst (.str "lever")) nilA))) (frz (lcN (itA (vr 18)) (nmN 19) yesT (cal oStrI (consA (vr 19) nilA)) [19])))) [18]))) [x0, x1, x2, .fz (iT m), .fz (cD c), .fz (lD l), .fz (.lst (ls.map .str)), x7, x8, x9, x10, x11, x12, x13, x14, .un, .un, .un, .un, .un] st =
    .nx [x0, x1, x2, .fz (iT m), .fz (cD c), .fz (lD l), .fz (.lst ((ls ++ (l.map rwL).map ln).map .str)), x7, x8, x9, x10, x11, x12, x13, x14, .un, .un, .un, .un, .un] st := by
  have h4 := P.four
  have hll := P.levs.few
  have hit : itA1 () (lD l) st = .ok (l.map wD) st := rfl
  have hc : lc1 (nmN 18, yesT, joinV (cst (.str " ")) (bin oAdd (frz (lstN (consA (cst (.str "lever")) nilA))) (frz (lcN (itA (vr 18)) (nmN 19) yesT (cal oStrI (consA (vr 19) nilA)) [19]))), [18], [x0, x1, x2, .fz (iT m), .fz (cD c), .fz (lD l), .fz (.lst (ls.map .str)), x7, x8, x9, x10, x11, x12, x13, x14, .un, .un, .un, .un, .un]) (l.map wD) st = .ok (((l.map rwL).map ln).map .str) st := by
    rw [ev_lc1 (by simp; omega) (by simp), wipeE_cons, wipeE_nil, lcL_map (F := wD) (G := fun v => .str (ln (rwL v))) l fun v hv => ⟨_, rfl, rfl, ?_, rfl⟩]
    · simp [Function.comp_def]
    · have h1 := sorted_le (P.levs.srt v hv) (P.levs.lt v hv)
      have hlt : ∀ k ∈ v, k < 1000 := fun k hk => by have := P.levs.lt v hv k hk; omega
      have hq := str_nums (st := st) (v := v) (i := 19) (j := 18) (env := [x0, x1, x2, .fz (iT m), .fz (cD c), .fz (lD l), .fz (.lst (ls.map .str)), x7, x8, x9, x10, x11, x12, x13, x14, .un, .un, .un, .fz (wD v), .un]) (by simp) rfl (by simp) hlt (by omega) (by omega)
      have hl1 : lst1 () [D.str "lever"] st = .ok [D.str "lever"] st := ev_lst1 (by simp) (by simp)
      have hc2 := ev_catO (st := st) (xs := [D.str "lever"]) (ys := (v.map nS).map .str) (by simp; omega)
      have hX2 : [D.str "lever"] ++ (v.map nS).map D.str = (rwL v).map .str := by simp [rwL]
      rw [hX2] at hc2
      have hc3 : ∀ env : DL.Env, oAdd env st (.lst [D.str "lever"]) (.lst ((v.map nS).map .str)) = .ok (.lst ((rwL v).map .str)) st := fun env => hc2
      have hj : ∀ env : DL.Env, join3 (env, " ") (.lst ((rwL v).map .str)) st = .ok (.str (ln (rwL v))) st := fun env => ev_join3 (by
        have h5 := sum_le (ws := rwL v) (b := 10) fun w hw => (wd_rwL (v := v) (fun k hk => by have := P.levs.lt v hv k hk; omega) w hw).len
        have h6 : (rwL v).length ≤ 6 := by simp [rwL]; omega
        have e1 : (" " : Str).length = 1 := by decide
        rw [e1]; omega)
      simp only [List.set_cons_succ, List.set_cons_zero]
      simp only [ev_joinV, ev_cst, go_ok, ev_join1, ev_bin]
      rw [ev_frz, ev_lstN, ev_consA, ev_cst, go_ok, ev_cons1, ev_nilA, go_ok, ev_cons2, go_ok, hl1, go_ok, ev_frz1, go_ok, ev_bin1, hq, go_ok, ev_bin2, hc3, go_ok, hj]
  have hcat : ∀ env : DL.Env, oAdd env st (.lst (ls.map .str)) (.lst (((l.map rwL).map ln).map .str)) = .ok (.lst ((ls ++ (l.map rwL).map ln).map .str)) st := fun env => by
    rw [List.map_append]
    exact ev_catO (by simp; omega)
  have hns : (D.lst ((ls ++ (l.map rwL).map ln).map .str)).isSl = false := rfl
  rw [ev_setS, ev_bin, ev_vr]
  simp only [List.getElem?_cons_succ, List.getElem?_cons_zero, slotE_fz, go_ok, ev_bin1, ev_frz, ev_lcN, ev_itA, ev_vr, hit, hc, ev_frz1, ev_bin2, hcat, gS_ok, ev_setS1, hns, Bool.false_eq_true, if_false, List.set_cons_succ, List.set_cons_zero]
/-- "\n".join of lines -/
theorem join_lines {ls : List Str} {b : Nat} (h : ∀ x ∈ ls, x.length ≤ b) (hl : ls.length * b + ls.length ≤ 1000000) {env : DL.Env} : join3 (env, "\n") (.lst (ls.map .str)) st = .ok (.str (Txt.join nlc ls)) st := ev_join3 (by
  have h5 := sum_le (ws := ls) (b := b) h
  have e1 : ("\n" : Str).length = 1 := by decide
  rw [e1]
  omega)
end HW
namespace HW
open PySem PySem.Spec PyProof.Rows L2 DL
variable {A : Cl} {st : Store} {m : List Int} {c : List (Nat × Nat)} {l : List (List Nat)}
variable {x0 x1 x2 x6 x7 x8 x9 x10 x11 x12 x13 x14 : DL.Slot}
theorem parts_list (P : PartsOk m c l) : (D.lst [iT m, cD c, lD l]).plain 5 = true := by
  have h := plain_more 4 _ (plain_more 3 _ P.plain)
  simp only [partsD, D.plain] at h
  simp only [D.plain]
  exact h
/-- one text read -/
theorem text_step (P : PartsOk m c l) {T : Str} (hr : φ_read A [.str T] st = .ok (boardD A m c l) st) : (t3_law (.str T) [x0, x1, x2, .fz (iT m), .fz (cD c), .fz (lD l), x6, .fz (boardD A m c l), .fz (.str (txt m c l)), x9, x10, x11, x12, x13, x14, .un, .un, .un, .un, .un] st).seq (l3_law A) =
    .nx [x0, x1, x2, .fz (iT m), .fz (cD c), .fz (lD l), x6, .fz (boardD A m c l), .fz (.str (txt m c l)), x9, x10, x11, x12, .fz (.str T), .fz (boardD A m c l), .un, .un, .un, .un, .un] st := by
  have hb : (boardD A m c l).isSl = false := rfl
  have s0 : (iT m).isSl = false := rfl
  have s1 : (cD c).isSl = false := rfl
  have s2 : (lD l).isSl = false := rfl
  have e1 : t3_law (.str T) [x0, x1, x2, .fz (iT m), .fz (cD c), .fz (lD l), x6, .fz (boardD A m c l), .fz (.str (txt m c l)), x9, x10, x11, x12, x13, x14, .un, .un, .un, .un, .un] st = .nx [x0, x1, x2, .fz (iT m), .fz (cD c), .fz (lD l), x6, .fz (boardD A m c l), .fz (.str (txt m c l)), x9, x10, x11, x12, .fz (.str T), x14, .un, .un, .un, .un, .un] st := by
    simp [t3_law]
  have e2 : setS 14 (app 1 (φ_read A) (consA (vr 13) nilA)) [x0, x1, x2, .fz (iT m), .fz (cD c), .fz (lD l), x6, .fz (boardD A m c l), .fz (.str (txt m c l)), x9, x10, x11, x12, .fz (.str T), x14, .un, .un, .un, .un, .un] st = .nx [x0, x1, x2, .fz (iT m), .fz (cD c), .fz (lD l), x6, .fz (boardD A m c l), .fz (.str (txt m c l)), x9, x10, x11, x12, .fz (.str T), .fz (boardD A m c l), .un, .un, .un, .un, .un] st := by
    simp [hr, hb]
  obtain ⟨E, hE⟩ : ∃ E : DL.Env, E = [x0, x1, x2, .fz (iT m), .fz (cD c), .fz (lD l), x6, .fz (boardD A m c l), .fz (.str (txt m c l)), x9, x10, x11, x12, .fz (.str T), .fz (boardD A m c l), .un, .un, .un, .un, .un] := ⟨_, rfl⟩
  have v3 : vr 3 E st = .ok (iT m) st := by rw [hE]; rfl
  have v4 : vr 4 E st = .ok (cD c) st := by rw [hE]; rfl
  have v5 : vr 5 E st = .ok (lD l) st := by rw [hE]; rfl
  have v7 : vr 7 E st = .ok (boardD A m c l) st := by rw [hE]; rfl
  have v8 : vr 8 E st = .ok (.str (txt m c l)) st := by rw [hE]; rfl
  have v14 : vr 14 E st = .ok (boardD A m c l) st := by rw [hE]; rfl
  obtain ⟨p1, p2, p3⟩ := prp_parts (A := A) (st := st) P (i := 14) (env := E) (by rw [hE]; rfl)
  have hl : lst1 () [iT m, cD c, lD l] st = .ok [iT m, cD c, lD l] st := ev_lst1 (by simp) (by simp [s0, s1, s2])
  have hal := p_alike (A := A) (st := st) 5 (.lst [iT m, cD c, lD l]) (parts_list P) (by omega)
  have hat := p_alike (A := A) (st := st) 5 (.str (txt m c l)) (txt_ok P) (by omega)
  have hw := p_write (A := A) (st := st) P
  have heq := fun env : DL.Env => eqB (A := A) (st := st) P P (env := env)
  have e3 : (ifS (notT (tst (app 2 (φ_law_alike A 6) (consA (frz (lstN (consA (prp A.Board (φ_Board_marks A) (vr 14)) (consA (prp A.Board (φ_Board_carries A) (vr 14)) (consA (prp A.Board (φ_Board_levers A) (vr 14)) nilA))))) (consA (frz (lstN (consA (vr 3) (consA (vr 4) (consA (vr 5) nilA))))) nilA))))) (retS (cst (.bl false))) nxS) E st = .nx E st := by
    simp [p1, p2, p3, v3, v4, v5, hl, hal, -ev_vr]
  have e4 : (ifS (orT (notT (tst (bin (oEqM A.Board (φ_Board_eq A)) (vr 14) (vr 7)))) (notT (tst (app 2 (φ_law_alike A 6) (consA (app 1 (φ_write A) (consA (vr 14) nilA)) (consA (vr 8) nilA)))))) (retS (cst (.bl false))) nxS) E st = .nx E st := by
    simp [v14, v7, v8, heq, hw, hat, hb, -ev_vr]
  rw [e1, seq_nx]
  unfold l3_law
  rw [ev_seqS, e2, seq_nx, ← hE, ev_seqS, e3, seq_nx, e4]
theorem turn_step (H : HS st) {x3 x4 x5 : DL.Slot} {k : Int} : ∃ (s2 : Store) (z2 z3 z4 z5 z6 z7 z8 z9 z10 z11 z12 z13 z14 : DL.Slot), (t1_law (.int k) [x0, .fz (.own 1), x2, x3, x4, x5, x6, x7, x8, x9, x10, x11, x12, x13, x14, .un, .un, .un, .un, .un] st).seq (l1_law A) =
    .nx [x0, .fz (.own 1), z2, z3, z4, z5, z6, z7, z8, z9, z10, z11, z12, z13, z14, .un, .un, .un, .un, .un] s2 ∧ HS s2 := by
  obtain ⟨m, c, l, s1, b1, H1, P⟩ := p_law_parts (A := A) H (cap := 59) (by omega) (by omega)
  have h4 := P.four
  have hcl := P.clen
  have hll := P.levs.few
  have hb : (boardD A m c l).isSl = false := rfl
  have e1 : t1_law (.int k) [x0, .fz (.own 1), x2, x3, x4, x5, x6, x7, x8, x9, x10, x11, x12, x13, x14, .un, .un, .un, .un, .un] st = .nx [x0, .fz (.own 1), .fz (.int k), x3, x4, x5, x6, x7, x8, x9, x10, x11, x12, x13, x14, .un, .un, .un, .un, .un] st := by
    simp [t1_law]
  have e2 : asgS (app 2 (φ_law_parts A) (consA (vr 1) (consA (cst (.int 59)) nilA))) (ofN (tupN 3 (consN (nmN 3) (consN (nmN 4) (consN (nmN 5) nilN))))) [x0, .fz (.own 1), .fz (.int k), x3, x4, x5, x6, x7, x8, x9, x10, x11, x12, x13, x14, .un, .un, .un, .un, .un] st = .nx [x0, .fz (.own 1), .fz (.int k), .fz (iT m), .fz (cD c), .fz (lD l), x6, x7, x8, x9, x10, x11, x12, x13, x14, .un, .un, .un, .un, .un] s1 := by
    simp [b1]
  have e3 := lines_m (st := s1) P (x0 := x0) (x1 := .fz (.own 1)) (x2 := .fz (.int k)) (x6 := x6) (x7 := x7) (x8 := x8) (x9 := x9) (x10 := x10) (x11 := x11) (x12 := x12) (x13 := x13) (x14 := x14)
  have e4 := lines_c (st := s1) P (ls := (m.map rwM).map ln) (by simp; omega) (x0 := x0) (x1 := .fz (.own 1)) (x2 := .fz (.int k)) (x7 := x7) (x8 := x8) (x9 := x9) (x10 := x10) (x11 := x11) (x12 := x12) (x13 := x13) (x14 := x14)
  have e5 := lines_l (st := s1) P (ls := (m.map rwM).map ln ++ (c.map rwC).map ln) (by simp; omega) (x0 := x0) (x1 := .fz (.own 1)) (x2 := .fz (.int k)) (x7 := x7) (x8 := x8) (x9 := x9) (x10 := x10) (x11 := x11) (x12 := x12) (x13 := x13) (x14 := x14)
  have hrw : (m.map rwM).map ln ++ (c.map rwC).map ln ++ (l.map rwL).map ln = (rowsW m c l).map ln := by simp [rowsW]
  rw [hrw] at e5
  have hrl := rows_len P
  have hwr := wd_rows P
  have hlen : ∀ x ∈ (rowsW m c l).map ln, x.length ≤ 800 := fun x hx => by
    obtain ⟨r, hr, rfl⟩ := List.mem_map.mp hx
    exact (ln_ok (hwr r hr).2.2 (hwr r hr).1).len
  have hj := fun env : DL.Env => join_lines (st := s1) hlen (by simp; omega) (env := env)
  have htx : Txt.join nlc ((rowsW m c l).map ln) = txt m c l := rfl
  rw [htx] at hj
  have e6 : parS [7, 8] (consMV (mkF A.Board 3 (φ_Board_init A) (consA (vr 3) (consA (vr 4) (consA (vr 5) nilA)))) (consMV (joinV (cst (.str "\n")) (vr 6)) nilM)) [x0, .fz (.own 1), .fz (.int k), .fz (iT m), .fz (cD c), .fz (lD l), .fz (.lst (((rowsW m c l).map ln).map .str)), x7, x8, x9, x10, x11, x12, x13, x14, .un, .un, .un, .un, .un] s1 =
      .nx [x0, .fz (.own 1), .fz (.int k), .fz (iT m), .fz (cD c), .fz (lD l), .fz (.lst (((rowsW m c l).map ln).map .str)), .fz (boardD A m c l), .fz (.str (txt m c l)), x9, x10, x11, x12, x13, x14, .un, .un, .un, .un, .un] s1 := by
    have hm := p_mk2 (A := A) P H1.bel (f := consA (vr 3) (consA (vr 4) (consA (vr 5) nilA))) (env := [x0, .fz (.own 1), .fz (.int k), .fz (iT m), .fz (cD c), .fz (lD l), .fz (.lst (((rowsW m c l).map ln).map .str)), x7, x8, x9, x10, x11, x12, x13, x14, .un, .un, .un, .un, .un]) rfl
    have hj' := hj
    generalize ((rowsW m c l).map ln).map D.str = W at hm hj' ⊢
    simp [hm, hj', hb]
  have hw := p_write (A := A) (st := s1) P
  have hat := p_alike (A := A) (st := s1) 5 (.str (txt m c l)) (txt_ok P) (by omega)
  have e7 : (ifS (notT (tst (app 2 (φ_law_alike A 6) (consA (app 1 (φ_write A) (consA (vr 7) nilA)) (consA (vr 8) nilA))))) (retS (cst (.bl false))) nxS) [x0, .fz (.own 1), .fz (.int k), .fz (iT m), .fz (cD c), .fz (lD l), .fz (.lst (((rowsW m c l).map ln).map .str)), .fz (boardD A m c l), .fz (.str (txt m c l)), x9, x10, x11, x12, x13, x14, .un, .un, .un, .un, .un] s1 =
      .nx [x0, .fz (.own 1), .fz (.int k), .fz (iT m), .fz (cD c), .fz (lD l), .fz (.lst (((rowsW m c l).map ln).map .str)), .fz (boardD A m c l), .fz (.str (txt m c l)), x9, x10, x11, x12, x13, x14, .un, .un, .un, .un, .un] s1 := by
    simp [hb, hw, hat]
  have e8 : ownS 9 (lstN nilA) [x0, .fz (.own 1), .fz (.int k), .fz (iT m), .fz (cD c), .fz (lD l), .fz (.lst (((rowsW m c l).map ln).map .str)), .fz (boardD A m c l), .fz (.str (txt m c l)), x9, x10, x11, x12, x13, x14, .un, .un, .un, .un, .un] s1 =
      .nx [x0, .fz (.own 1), .fz (.int k), .fz (iT m), .fz (cD c), .fz (lD l), .fz (.lst (((rowsW m c l).map ln).map .str)), .fz (boardD A m c l), .fz (.str (txt m c l)), .ol [], x10, x11, x12, x13, x14, .un, .un, .un, .un, .un] s1 := by
    simp
  obtain ⟨e, s2, q9, H2, ws, g1, g2, z10, z11, z12, rfl⟩ := forL_at (F := fun r : List Str => D.str (ln r)) (tg := t2_law) (b := l2_law A) (as := rowsW m c l) (st := s1) (env := [x0, .fz (.own 1), .fz (.int k), .fz (iT m), .fz (cD c), .fz (lD l), .fz (.lst (((rowsW m c l).map ln).map .str)), .fz (boardD A m c l), .fz (.str (txt m c l)), .ol [], x10, x11, x12, x13, x14, .un, .un, .un, .un, .un])
    (fun j env s => HS s ∧ ∃ ws : List Str, ws.map wordsOf = (rowsW m c l).take j ∧ (∀ x ∈ ws, LOk 800 x) ∧ ∃ z10 z11 z12 : DL.Slot, env = [x0, .fz (.own 1), .fz (.int k), .fz (iT m), .fz (cD c), .fz (lD l), .fz (.lst (((rowsW m c l).map ln).map .str)), .fz (boardD A m c l), .fz (.str (txt m c l)), .ol (ws.map .str), z10, z11, z12, x13, x14, .un, .un, .un, .un, .un])
    (fun j hj env s ⟨g0, ws, g1, g2, z10, z11, z12, he⟩ => by
      subst he
      have hl := congrArg List.length g1
      simp at hl
      obtain ⟨s2, y, w11, w12, k1, k2, k3, k4⟩ := room_step (A := A) g0 (ws := ws) (hwr _ (List.getElem_mem hj)) (by omega)
      refine ⟨_, s2, k1, k2, ws ++ [y], ?_, fun x hx => ?_, _, _, _, rfl⟩
      · rw [List.map_append, g1, List.map_cons, k3, List.map_nil, List.take_add_one, List.getElem?_eq_getElem hj]; rfl
      · rcases List.mem_append.mp hx with hx | hx
        · exact g2 x hx
        · have : x = y := by simpa using hx
          exact this ▸ k4) ⟨H1, [], rfl, by simp, x10, x11, x12, rfl⟩
  rw [List.take_length] at g1
  have hwl : ws.length ≤ 24 := by
    have := congrArg List.length g1
    simp at this; omega
  have hwne : ws ≠ [] := fun e => by
    rw [e] at g1
    exact rows_ne P g1.symm
  have r1 : φ_read A [.str (txt m c l)] s2 = .ok (boardD A m c l) s2 := by
    have := p_readL (A := A) (st := s2) P H2.bel (ls := (rowsW m c l).map ln) (fun e => rows_ne P (List.map_eq_nil_iff.mp e)) (by simp; omega) (fun x hx => by
      obtain ⟨r, hr, rfl⟩ := List.mem_map.mp hx
      exact ln_ok (hwr r hr).2.2 (hwr r hr).1) (by
      rw [List.map_map]
      have : ∀ r ∈ rowsW m c l, (wordsOf ∘ ln) r = id r := fun r hr => ln_words (hwr r hr).2.1 (hwr r hr).2.2
      rw [List.map_congr_left this, List.map_id])
    exact this
  have r2 := p_readL (A := A) (st := s2) P H2.bel hwne (by omega) g2 g1
  have hj2 := fun env : DL.Env => join_lines (st := s2) (fun x hx => (g2 x hx).len) (by omega) (env := env)
  have t1 := text_step (A := A) P r1 (x0 := x0) (x1 := .fz (.own 1)) (x2 := .fz (.int k)) (x6 := .fz (.lst (((rowsW m c l).map ln).map .str))) (x9 := .fz (.lst (ws.map .str))) (x10 := z10) (x11 := z11) (x12 := z12) (x13 := x13) (x14 := x14)
  have t2 := text_step (A := A) P r2 (x0 := x0) (x1 := .fz (.own 1)) (x2 := .fz (.int k)) (x6 := .fz (.lst (((rowsW m c l).map ln).map .str))) (x9 := .fz (.lst (ws.map .str))) (x10 := z10) (x11 := z11) (x12 := z12) (x13 := .fz (.str (txt m c l))) (x14 := .fz (boardD A m c l))
  have q10 : forL t3_law (l3_law A) [.str (txt m c l), .str (Txt.join nlc ws)] [x0, .fz (.own 1), .fz (.int k), .fz (iT m), .fz (cD c), .fz (lD l), .fz (.lst (((rowsW m c l).map ln).map .str)), .fz (boardD A m c l), .fz (.str (txt m c l)), .fz (.lst (ws.map .str)), z10, z11, z12, x13, x14, .un, .un, .un, .un, .un] s2 =
      .nx [x0, .fz (.own 1), .fz (.int k), .fz (iT m), .fz (cD c), .fz (lD l), .fz (.lst (((rowsW m c l).map ln).map .str)), .fz (boardD A m c l), .fz (.str (txt m c l)), .fz (.lst (ws.map .str)), z10, z11, z12, .fz (.str (Txt.join nlc ws)), .fz (boardD A m c l), .un, .un, .un, .un, .un] s2 := by
    rw [forL_cons t1, forL_cons t2]; rfl
  have e9 : frzS 9 (forS (itA (frz (lstN (consA (vr 8) (consA (joinV (cst (.str "\n")) (vr 9)) nilA))))) t3_law (l3_law A)) [x0, .fz (.own 1), .fz (.int k), .fz (iT m), .fz (cD c), .fz (lD l), .fz (.lst (((rowsW m c l).map ln).map .str)), .fz (boardD A m c l), .fz (.str (txt m c l)), .ol (ws.map .str), z10, z11, z12, x13, x14, .un, .un, .un, .un, .un] s2 =
      .nx [x0, .fz (.own 1), .fz (.int k), .fz (iT m), .fz (cD c), .fz (lD l), .fz (.lst (((rowsW m c l).map ln).map .str)), .fz (boardD A m c l), .fz (.str (txt m c l)), .fz (.lst (ws.map .str)), z10, z11, z12, .fz (.str (Txt.join nlc ws)), .fz (boardD A m c l), .un, .un, .un, .un, .un] s2 := by
    have hl : lst1 () [D.str (txt m c l), .str (Txt.join nlc ws)] s2 = .ok [.str (txt m c l), .str (Txt.join nlc ws)] s2 := ev_lst1 (by simp) (by simp)
    have hit : itA1 () (.lst [D.str (txt m c l), .str (Txt.join nlc ws)]) s2 = .ok [.str (txt m c l), .str (Txt.join nlc ws)] s2 := rfl
    rw [ev_frzS]
    simp only [List.getElem?_cons_succ, List.getElem?_cons_zero, ev_frzK, List.set_cons_succ, List.set_cons_zero, ev_forS, ev_itA, ev_frz, ev_lstN, ev_consA, ev_vr, slotE_fz, go_ok, ev_cons1, ev_joinV, ev_cst, ev_join1, hj2, ev_nilA, ev_cons2, hl, ev_frz1, hit, gS_ok]
    exact q10
  refine ⟨s2, .fz (.int k), .fz (iT m), .fz (cD c), .fz (lD l), .fz (.lst (((rowsW m c l).map ln).map .str)), .fz (boardD A m c l), .fz (.str (txt m c l)), .fz (.lst (ws.map .str)), z10, z11, z12, .fz (.str (Txt.join nlc ws)), .fz (boardD A m c l), ?_, H2⟩
  have q9' : forS (itA (vr 6)) t2_law (l2_law A) [x0, .fz (.own 1), .fz (.int k), .fz (iT m), .fz (cD c), .fz (lD l), .fz (.lst (((rowsW m c l).map ln).map .str)), .fz (boardD A m c l), .fz (.str (txt m c l)), .ol [], x10, x11, x12, x13, x14, .un, .un, .un, .un, .un] s1 = .nx [x0, .fz (.own 1), .fz (.int k), .fz (iT m), .fz (cD c), .fz (lD l), .fz (.lst (((rowsW m c l).map ln).map .str)), .fz (boardD A m c l), .fz (.str (txt m c l)), .ol (ws.map .str), z10, z11, z12, x13, x14, .un, .un, .un, .un, .un] s2 := by
    have hit : itA1 () (.lst (((rowsW m c l).map ln).map .str)) s1 = .ok (((rowsW m c l).map ln).map .str) s1 := rfl
    simp only [ev_forS, ev_itA, ev_vr, List.getElem?_cons_succ, List.getElem?_cons_zero, slotE_fz, go_ok, hit, gS_ok]
    have hmm : ((rowsW m c l).map ln).map D.str = (rowsW m c l).map fun r => D.str (ln r) := by rw [List.map_map]; rfl
    show forL t2_law (l2_law A) (((rowsW m c l).map ln).map D.str) _ s1 = _
    have q9' := q9
    rw [← hmm] at q9'
    exact q9'
  rw [e1, seq_nx]
  unfold l1_law
  rw [ev_seqS, e2, seq_nx, ev_seqS, e3, seq_nx, ev_seqS, e4, seq_nx, ev_seqS, e5, seq_nx, ev_seqS, e6, seq_nx, ev_seqS, e7, seq_nx, ev_seqS, e8, seq_nx, ev_seqS, q9', seq_nx, e9]
theorem law_true (A : Cl) : LawTrue (φ_law A) := by
  intro ns hl _
  obtain ⟨s1, b1, H1⟩ := p_law_mix (A := A) (ns := ns) (seed := 13) hl
  have hs : (scrOf ns).isSl = false := rfl
  obtain ⟨e, s2, q, H2, z2, z3, z4, z5, z6, z7, z8, z9, z10, z11, z12, z13, z14, rfl⟩ := forL_rng (tg := t1_law) (b := l1_law A) (lo := 0) (n := 5) (st := s1) (env := [.fz (scrOf ns), .fz (.own 1), .un, .un, .un, .un, .un, .un, .un, .un, .un, .un, .un, .un, .un, .un, .un, .un, .un, .un])
    (fun i env s => HS s ∧ ∃ z2 z3 z4 z5 z6 z7 z8 z9 z10 z11 z12 z13 z14 : DL.Slot, env = [.fz (scrOf ns), .fz (.own 1), z2, z3, z4, z5, z6, z7, z8, z9, z10, z11, z12, z13, z14, .un, .un, .un, .un, .un])
    (fun i env s hi ⟨h0, z2, z3, z4, z5, z6, z7, z8, z9, z10, z11, z12, z13, z14, he⟩ => by
      subst he
      obtain ⟨s2, w2, w3, w4, w5, w6, w7, w8, w9, w10, w11, w12, w13, w14, k1, k2⟩ := turn_step (A := A) h0 (k := 0 + (i : Int))
      exact ⟨_, s2, k1, k2, _, _, _, _, _, _, _, _, _, _, _, _, _, rfl⟩) ⟨H1, .un, .un, .un, .un, .un, .un, .un, .un, .un, .un, .un, .un, .un, rfl⟩
  have r5 : rngOk 5 = true := by decide +kernel
  refine ⟨s2, ?_⟩
  simp [φ_law, b_law, b1, hs, r5]
  have q' : forL t1_law (l1_law A) (rngD 0 5) [.fz (scrOf ns), .fz (.own 1), .un, .un, .un, .un, .un, .un, .un, .un, .un, .un, .un, .un, .un, .un, .un, .un, .un, .un] s1 = _ := q
  rw [q']
  simp
end HW
namespace HW
open PySem PySem.Spec PyProof.Rows L2 DL
def topS (i : Nat) : Stmt := PySem.Challenge.pw_handwheels_k13_whole_texts.main.body.getD i (.Pass ⟨0, 0, 0, 0⟩)

structure Glo (K : PySem.W.Frag) (mg : Str → Option Value) (A : Cl) : Prop where
  CARRY : ∃ t, mg "CARRY" = some (.str "carry" t)
  LEAST_MARKS : ∃ t, mg "LEAST_MARKS" = some (.int 2 t)
  LEVER : ∃ t, mg "LEVER" = some (.str "lever" t)
  MOST_LEVERS : ∃ t, mg "MOST_LEVERS" = some (.int 4 t)
  MOST_MARKS : ∃ t, mg "MOST_MARKS" = some (.int 60 t)
  MOST_WHEELS : ∃ t, mg "MOST_WHEELS" = some (.int 4 t)
  WHEEL : ∃ t, mg "WHEEL" = some (.str "wheel" t)
  Board_cls : Cls K A.Board
  Board_no_parts : NoAttr K A.Board "parts"
  Board : mg "Board" = some (.ref A.Board)
  Board_is : IsC K A.Board
  booked : Booked K
section
variable {P : Program} {w : World} {K : PySem.W.Frag} {mg : Str → Option Value} {base : Heap} {A : Cl}
abbrev S_is_integer : Stmt := topS 11
abbrev N_is_integer : List Str := ["thing", "low", "high"]
theorem sc_is_integer : FnScope N_is_integer ["thing", "low", "high"] (defScope S_is_integer) := ⟨rfl, rfl, rfl, by decide +kernel, rfl, by decide +kernel, by decide +kernel⟩
theorem d_is_integer  (B : Blt mg) (G : Glo K mg A) (E : WX) : DSs ⟨P, w, K, mg, base, N_is_integer, defScope S_is_integer, fun _ => true, 0, E⟩ (defBody S_is_integer) (b_is_integer A) := by
  have hN : N_is_integer.Nodup := sc_is_integer.nd
  exact (dss_one (ds_ret (de_and (de_callB dc_isi rfl B.isinstance_ (by decide +kernel) (da_cons (dv 0) (da_cons (de_ty rfl B.int_ boot_int) da_nil))) (de_and (de_not (de_callB dc_isi rfl B.isinstance_ (by decide +kernel) (da_cons (dv 0) (da_cons (de_ty rfl B.bool_ boot_bool) da_nil)))) (de_one (de_chain do_leA do_leA (dv 1) (dv 0) (dv 2)))))))
theorem c_is_integer  (B : Blt mg) (G : Glo K mg A) (T : At K mg "is_integer" S_is_integer) : Cal P w K mg base "is_integer" 1 3 (φ_is_integer A) :=
  T.cal sc_is_integer (d_is_integer  B G) fun _ _ _ _ _ _ us hl => match us, hl with | [_, _, _], _ => rfl
abbrev S_is_marks : Stmt := topS 12
abbrev N_is_marks : List Str := ["thing", "one"]
theorem sc_is_marks : FnScope N_is_marks ["thing"] (defScope S_is_marks) := ⟨rfl, rfl, rfl, by decide +kernel, rfl, by decide +kernel, by decide +kernel⟩
theorem d_is_marks (c_is_integer : Cal P w K mg base "is_integer" 1 3 (φ_is_integer A)) (B : Blt mg) (G : Glo K mg A) (E : WX) : DSs ⟨P, w, K, mg, base, N_is_marks, defScope S_is_marks, fun _ => true, 1, E⟩ (defBody S_is_marks) (b_is_marks A) := by
  have hN : N_is_marks.Nodup := sc_is_marks.nd
  exact (dss_cons (ds_if (DW.dt (dw_or (dt_not (dt_val (de_callB dc_isi rfl B.isinstance_ (by decide +kernel) (da_cons (dv 0) (da_cons (de_ty rfl B.tuple_ boot_tuple) da_nil))) (fun _ _ => rfl))) (dw_or1 (dt_not (dt_chain do_leA do_leA de_int (de_callB dc_len rfl B.len_ (by decide +kernel) (da_cons (dv 0) da_nil)) (de_cint G.MOST_WHEELS rfl)))))) (dss_one (ds_ret de_bl)) dss_nil)
  (dss_one (ds_ret (de_callB dc_all rfl B.all_ (by decide +kernel) (da_cons (de_new (dn_lc [("one", 1)] (di_seq (dv 0)) (show blkC N_is_marks (defScope S_is_marks) _ _ = true from by decide +kernel) (dgn_name 1) dts_nil (dcall c_is_integer (show (1 : Nat) ≤ 1 by decide) (da_cons (dv 1) (da_cons (de_cint G.LEAST_MARKS rfl) (da_cons (de_cint G.MOST_MARKS rfl) da_nil)))))) da_nil)))))
theorem c_is_marks (c_is_integer : Cal P w K mg base "is_integer" 1 3 (φ_is_integer A)) (B : Blt mg) (G : Glo K mg A) (T : At K mg "is_marks" S_is_marks) : Cal P w K mg base "is_marks" 2 1 (φ_is_marks A) :=
  T.cal sc_is_marks (d_is_marks c_is_integer B G) fun _ _ _ _ _ _ us hl => match us, hl with | [_], _ => rfl
abbrev S_check_frame : Stmt := topS 13
abbrev N_check_frame : List Str := ["marks", "carries", "index", "carry"]
theorem sc_check_frame : FnScope N_check_frame ["marks", "carries"] (defScope S_check_frame) := ⟨rfl, rfl, rfl, by decide +kernel, rfl, by decide +kernel, by decide +kernel⟩
theorem d_check_frame (c_is_integer : Cal P w K mg base "is_integer" 1 3 (φ_is_integer A)) (c_is_marks : Cal P w K mg base "is_marks" 2 1 (φ_is_marks A)) (B : Blt mg) (G : Glo K mg A) (E : WX) : DSs ⟨P, w, K, mg, base, N_check_frame, defScope S_check_frame, fun _ => true, 2, E⟩ (defBody S_check_frame) (b_check_frame A) := by
  have hN : N_check_frame.Nodup := sc_check_frame.nd
  exact (dss_cons (ds_if (dt_not (dt_val (dcall c_is_marks (show (2 : Nat) ≤ 2 by decide) (da_cons (dv 0) da_nil)) (fun _ _ => rfl))) (dss_one ds_never) dss_nil)
  (dss_cons (ds_if (dt_not (dt_val (de_callB dc_isi rfl B.isinstance_ (by decide +kernel) (da_cons (dv 1) (da_cons (de_ty rfl B.tuple_ boot_tuple) da_nil))) (fun _ _ => rfl))) (dss_one ds_never) dss_nil)
  (dss_one (ds_for (di_enum (dv 1) rfl B.enumerate_) (dg_of (dgn_tup (dgns_cons (dgn_name 2) (dgns_cons (dgn_name 3) dgns_nil)))) (dss_cons (ds_if (DW.dt (dw_or (dt_not (dt_val (de_callB dc_isi rfl B.isinstance_ (by decide +kernel) (da_cons (dv 3) (da_cons (de_ty rfl B.tuple_ boot_tuple) da_nil))) (fun _ _ => rfl))) (dw_or (dt_cmp do_ne (de_callB dc_len rfl B.len_ (by decide +kernel) (da_cons (dv 3) da_nil)) de_int (nomark _)) (dw_or1 (dt_not (dt_val (dcall c_is_integer (show (1 : Nat) ≤ 2 by decide) (da_cons (de_ix (dv 3) de_int) (da_cons de_int (da_cons (de_op do_sub (de_callB dc_len rfl B.len_ (by decide +kernel) (da_cons (dv 0) da_nil)) de_int) da_nil)))) (fun _ _ => rfl))))))) (dss_one ds_never) dss_nil)
  (dss_one (ds_if (DW.dt (dw_or (dt_not (dt_val (dcall c_is_integer (show (1 : Nat) ≤ 2 by decide) (da_cons (de_ix (dv 3) de_int) (da_cons (de_op do_add (de_ix (dv 3) de_int) de_int) (da_cons (de_op do_sub (de_callB dc_len rfl B.len_ (by decide +kernel) (da_cons (dv 0) da_nil)) de_int) da_nil)))) (fun _ _ => rfl))) (dw_or1 (DW.dt (dw_and (dt_cmp do_gtA (dv 2) de_int (nomark _)) (dw_and1 (dt_cmp do_leA (dv 3) (de_ix (dv 1) (de_op do_sub (dv 2) de_int)) (nomark _)))))))) (dss_one ds_never) dss_nil)))))))
theorem c_check_frame (c_is_integer : Cal P w K mg base "is_integer" 1 3 (φ_is_integer A)) (c_is_marks : Cal P w K mg base "is_marks" 2 1 (φ_is_marks A)) (B : Blt mg) (G : Glo K mg A) (T : At K mg "check_frame" S_check_frame) : Cal P w K mg base "check_frame" 3 2 (φ_check_frame A) :=
  T.cal sc_check_frame (d_check_frame c_is_integer c_is_marks B G) fun _ _ _ _ _ _ us hl => match us, hl with | [_, _], _ => rfl
abbrev S_is_lever : Stmt := topS 14
abbrev N_is_lever : List Str := ["thing", "many", "last", "wheel"]
theorem sc_is_lever : FnScope N_is_lever ["thing", "many"] (defScope S_is_lever) := ⟨rfl, rfl, rfl, by decide +kernel, rfl, by decide +kernel, by decide +kernel⟩
theorem d_is_lever (c_is_integer : Cal P w K mg base "is_integer" 1 3 (φ_is_integer A)) (B : Blt mg) (G : Glo K mg A) (E : WX) : DSs ⟨P, w, K, mg, base, N_is_lever, defScope S_is_lever, fun _ => true, 1, E⟩ (defBody S_is_lever) (b_is_lever A) := by
  have hN : N_is_lever.Nodup := sc_is_lever.nd
  exact (dss_cons (ds_if (DW.dt (dw_or (dt_not (dt_val (de_callB dc_isi rfl B.isinstance_ (by decide +kernel) (da_cons (dv 0) (da_cons (de_ty rfl B.tuple_ boot_tuple) da_nil))) (fun _ _ => rfl))) (dw_or1 (dt_cmp do_eq (dv 0) (de_tup da_nil) (nomark _))))) (dss_one (ds_ret de_bl)) dss_nil)
  (dss_cons (ds_set 2 (de_neg de_int))
  (dss_cons (ds_for (di_seq (dv 0)) (dg_of (dgn_name 3)) (dss_cons (ds_if (dt_not (dt_val (dcall c_is_integer (show (1 : Nat) ≤ 1 by decide) (da_cons (dv 3) (da_cons (de_op do_add (dv 2) de_int) (da_cons (de_op do_sub (dv 1) de_int) da_nil)))) (fun _ _ => rfl))) (dss_one (ds_ret de_bl)) dss_nil)
  (dss_one (ds_set 2 (dv 3)))))
  (dss_one (ds_ret de_bl)))))
theorem c_is_lever (c_is_integer : Cal P w K mg base "is_integer" 1 3 (φ_is_integer A)) (B : Blt mg) (G : Glo K mg A) (T : At K mg "is_lever" S_is_lever) : Cal P w K mg base "is_lever" 2 2 (φ_is_lever A) :=
  T.cal sc_is_lever (d_is_lever c_is_integer B G) fun _ _ _ _ _ _ us hl => match us, hl with | [_, _], _ => rfl
abbrev S_Board_init : Stmt := inClass (topS 15) 0
abbrev N_Board_init : List Str := ["self", "marks", "carries", "levers", "index", "lever"]
theorem sc_Board_init : FnScope N_Board_init ["self", "marks", "carries", "levers"] (defScope S_Board_init) := ⟨rfl, rfl, rfl, by decide +kernel, rfl, by decide +kernel, by decide +kernel⟩
theorem d_Board_init (c_check_frame : Cal P w K mg base "check_frame" 3 2 (φ_check_frame A)) (c_is_lever : Cal P w K mg base "is_lever" 2 2 (φ_is_lever A)) (B : Blt mg) (G : Glo K mg A) (E : WX) : DSs ⟨P, w, K, mg, base, N_Board_init, defScope S_Board_init, fun _ => true, 3, E⟩ (defBody S_Board_init) (b_Board_init A) := by
  have hN : N_Board_init.Nodup := sc_Board_init.nd
  exact (dss_cons (ds_expr (dcall c_check_frame (show (3 : Nat) ≤ 3 by decide) (da_cons (dv 1) (da_cons (dv 2) da_nil))))
  (dss_cons (ds_if (DW.dt (dw_or (dt_not (dt_val (de_callB dc_isi rfl B.isinstance_ (by decide +kernel) (da_cons (dv 3) (da_cons (de_ty rfl B.tuple_ boot_tuple) da_nil))) (fun _ _ => rfl))) (dw_or1 (dt_not (dt_chain do_leA do_leA de_int (de_callB dc_len rfl B.len_ (by decide +kernel) (da_cons (dv 3) da_nil)) (de_cint G.MOST_LEVERS rfl)))))) (dss_one ds_never) dss_nil)
  (dss_cons (ds_for (di_enum (dv 3) rfl B.enumerate_) (dg_of (dgn_tup (dgns_cons (dgn_name 4) (dgns_cons (dgn_name 5) dgns_nil)))) (dss_one (ds_if (dt_not (dt_val (dcall c_is_lever (show (2 : Nat) ≤ 3 by decide) (da_cons (dv 5) (da_cons (de_callB dc_len rfl B.len_ (by decide +kernel) (da_cons (dv 1) da_nil)) da_nil))) (fun _ _ => rfl))) (dss_one ds_never) dss_nil)))
  (dss_one (ds_fld (dv 0) (de_tup (da_cons (dv 1) (da_cons (dv 2) (da_cons (dv 3) da_nil)))) G.Board_cls G.Board_no_parts)))))
theorem c_Board_init (c_check_frame : Cal P w K mg base "check_frame" 3 2 (φ_check_frame A)) (c_is_lever : Cal P w K mg base "is_lever" 2 2 (φ_is_lever A)) (B : Blt mg) (G : Glo K mg A) (T : AtI K mg A.Board "Board" "Board.__init__" S_Board_init) : CalI P w K mg base A.Board "Board" 4 3 (φ_Board_init A) :=
  T.cal sc_Board_init (d_Board_init c_check_frame c_is_lever B G) rfl fun _ _ _ _ _ _ us hl => match us, hl with | [_, _, _, _], _ => rfl
abbrev S_Board_marks : Stmt := inClass (topS 15) 1
abbrev N_Board_marks : List Str := ["self"]
theorem sc_Board_marks : FnScope N_Board_marks ["self"] (defScope S_Board_marks) := ⟨rfl, rfl, rfl, by decide +kernel, rfl, by decide +kernel, by decide +kernel⟩
theorem d_Board_marks  (B : Blt mg) (G : Glo K mg A) (E : WX) : DSs ⟨P, w, K, mg, base, N_Board_marks, defScope S_Board_marks, fun _ => true, 0, E⟩ (defBody S_Board_marks) (b_Board_marks A) := by
  have hN : N_Board_marks.Nodup := sc_Board_marks.nd
  exact (dss_one (ds_ret (de_ix (de_fld (dv 0) G.Board_cls G.Board_no_parts) de_int)))
theorem c_Board_marks  (B : Blt mg) (G : Glo K mg A) (T : AtP K A.Board "marks" "Board.marks" S_Board_marks) : CalP P w K mg base A.Board "marks" 1 (φ_Board_marks A) :=
  T.cal sc_Board_marks (d_Board_marks  B G) rfl fun _ _ _ _ _ _ us hl => match us, hl with | [_], _ => rfl
abbrev S_Board_carries : Stmt := inClass (topS 15) 2
abbrev N_Board_carries : List Str := ["self"]
theorem sc_Board_carries : FnScope N_Board_carries ["self"] (defScope S_Board_carries) := ⟨rfl, rfl, rfl, by decide +kernel, rfl, by decide +kernel, by decide +kernel⟩
theorem d_Board_carries  (B : Blt mg) (G : Glo K mg A) (E : WX) : DSs ⟨P, w, K, mg, base, N_Board_carries, defScope S_Board_carries, fun _ => true, 0, E⟩ (defBody S_Board_carries) (b_Board_carries A) := by
  have hN : N_Board_carries.Nodup := sc_Board_carries.nd
  exact (dss_one (ds_ret (de_ix (de_fld (dv 0) G.Board_cls G.Board_no_parts) de_int)))
theorem c_Board_carries  (B : Blt mg) (G : Glo K mg A) (T : AtP K A.Board "carries" "Board.carries" S_Board_carries) : CalP P w K mg base A.Board "carries" 1 (φ_Board_carries A) :=
  T.cal sc_Board_carries (d_Board_carries  B G) rfl fun _ _ _ _ _ _ us hl => match us, hl with | [_], _ => rfl
abbrev S_Board_levers : Stmt := inClass (topS 15) 3
abbrev N_Board_levers : List Str := ["self"]
theorem sc_Board_levers : FnScope N_Board_levers ["self"] (defScope S_Board_levers) := ⟨rfl, rfl, rfl, by decide +kernel, rfl, by decide +kernel, by decide +kernel⟩
theorem d_Board_levers  (B : Blt mg) (G : Glo K mg A) (E : WX) : DSs ⟨P, w, K, mg, base, N_Board_levers, defScope S_Board_levers, fun _ => true, 0, E⟩ (defBody S_Board_levers) (b_Board_levers A) := by
  have hN : N_Board_levers.Nodup := sc_Board_levers.nd
  exact (dss_one (ds_ret (de_ix (de_fld (dv 0) G.Board_cls G.Board_no_parts) de_int)))
theorem c_Board_levers  (B : Blt mg) (G : Glo K mg A) (T : AtP K A.Board "levers" "Board.levers" S_Board_levers) : CalP P w K mg base A.Board "levers" 1 (φ_Board_levers A) :=
  T.cal sc_Board_levers (d_Board_levers  B G) rfl fun _ _ _ _ _ _ us hl => match us, hl with | [_], _ => rfl
abbrev S_Board_eq : Stmt := inClass (topS 15) 5
abbrev N_Board_eq : List Str := ["self", "other"]
theorem sc_Board_eq : FnScope N_Board_eq ["self", "other"] (defScope S_Board_eq) := ⟨rfl, rfl, rfl, by decide +kernel, rfl, by decide +kernel, by decide +kernel⟩
theorem d_Board_eq  (B : Blt mg) (G : Glo K mg A) (E : WX) : DSs ⟨P, w, K, mg, base, N_Board_eq, defScope S_Board_eq, fun _ => true, 0, E⟩ (defBody S_Board_eq) (b_Board_eq A) := by
  have hN : N_Board_eq.Nodup := sc_Board_eq.nd
  exact (dss_one (ds_ret (de_and (de_callB (dc_isC G.Board_is) rfl B.isinstance_ (by decide +kernel) (da_cons (dv 1) (da_cons (de_ccls G.Board rfl) da_nil))) (de_one (de_cmp do_eq (de_fld (dv 0) G.Board_cls G.Board_no_parts) (de_fld (dv 1) G.Board_cls G.Board_no_parts) (nomark _))))))
theorem c_Board_eq  (B : Blt mg) (G : Glo K mg A) (T : AtM K A.Board "__eq__" "Board.__eq__" S_Board_eq) : CalM P w K mg base A.Board "__eq__" 1 2 (φ_Board_eq A) :=
  T.cal sc_Board_eq (d_Board_eq  B G) rfl fun _ _ _ _ _ _ us hl => match us, hl with | [_, _], _ => rfl
abbrev S_write : Stmt := topS 20
abbrev N_write : List Str := ["board", "marks", "carries", "levers", "lines", "one", "other", "lever", "wheel"]
theorem sc_write : FnScope N_write ["board"] (defScope S_write) := ⟨rfl, rfl, rfl, by decide +kernel, rfl, by decide +kernel, by decide +kernel⟩
theorem d_write  (B : Blt mg) (G : Glo K mg A) (E : WX) : DSs ⟨P, w, K, mg, base, N_write, defScope S_write, fun _ => true, 0, E⟩ (defBody S_write) (b_write A) := by
  have hN : N_write.Nodup := sc_write.nd
  exact (dss_cons (ds_asg (de_fld (dv 0) G.Board_cls G.Board_no_parts) (dg_of (dgn_tup (dgns_cons (dgn_name 1) (dgns_cons (dgn_name 2) (dgns_cons (dgn_name 3) dgns_nil))))))
  (dss_cons (ds_set 4 (de_op do_add (de_new (dn_lc [("one", 5)] (di_seq (dv 1)) (show blkC N_write (defScope S_write) _ _ = true from by decide +kernel) (dgn_name 5) dts_nil (de_joined (dj_cons (de_fmt (de_cstr G.WHEEL rfl)) (dj_cons de_str (dj_cons (de_fmt (dv 5)) dj_nil)))))) (de_new (dn_lc [("one", 5), ("other", 6)] (di_seq (dv 2)) (show blkC N_write (defScope S_write) _ _ = true from by decide +kernel) (dgn_tup (dgns_cons (dgn_name 5) (dgns_cons (dgn_name 6) dgns_nil))) dts_nil (de_joined (dj_cons (de_fmt (de_cstr G.CARRY rfl)) (dj_cons de_str (dj_cons (de_fmt (dv 5)) (dj_cons de_str (dj_cons (de_fmt (dv 6)) dj_nil))))))))))
  (dss_one (ds_ret (de_join de_str (de_op do_add (dv 4) (de_new (dn_lc [("lever", 7)] (di_seq (dv 3)) (show blkC N_write (defScope S_write) _ _ = true from by decide +kernel) (dgn_name 7) dts_nil (de_join de_str (de_op do_add (de_new (dn_lst (da_cons (de_cstr G.LEVER rfl) da_nil))) (de_new (dn_lc [("wheel", 8)] (di_seq (dv 7)) (show blkC N_write (relS _ (defScope S_write)) _ _ = true from by decide +kernel) (dgn_name 8) dts_nil (de_callTy dc_strI rfl B.str_ (by decide +kernel) (da_cons (dv 8) da_nil))))))))))))))
theorem c_write  (B : Blt mg) (G : Glo K mg A) (T : At K mg "write" S_write) : Cal P w K mg base "write" 1 1 (φ_write A) :=
  T.cal sc_write (d_write  B G) fun _ _ _ _ _ _ us hl => match us, hl with | [_], _ => rfl
abbrev S_number_in : Stmt := topS 21
abbrev N_number_in : List Str := ["words", "at", "low", "high", "line", "word", "known", "number"]
theorem sc_number_in : FnScope N_number_in ["words", "at", "low", "high", "line"] (defScope S_number_in) := ⟨rfl, rfl, rfl, by decide +kernel, rfl, by decide +kernel, by decide +kernel⟩
theorem d_number_in  (B : Blt mg) (G : Glo K mg A) (E : WX) : DSs ⟨P, w, K, mg, base, N_number_in, defScope S_number_in, fun _ => true, 0, E⟩ (defBody S_number_in) (b_number_in A) := by
  have hN : N_number_in.Nodup := sc_number_in.nd
  exact (dss_cons (ds_set 5 (de_if (dt_cmp do_ltA (dv 1) (de_callB dc_len rfl B.len_ (by decide +kernel) (da_cons (dv 0) da_nil)) (nomark _)) (de_ix (dv 0) (dv 1)) de_str))
  (dss_cons (ds_thenFrz 6 (ds_setLc 6 [("number", 7)] (di_range2 (dv 2) (de_op do_add (dv 3) de_int) rfl B.range_) (show blkC N_number_in (defScope S_number_in) _ _ = true from by decide +kernel) (dgn_name 7) dts_nil (de_callTy dc_strI rfl B.str_ (by decide +kernel) (da_cons (dv 7) da_nil))))
  (dss_cons (ds_if (dt_cmp do_nin (dv 5) (dv 6) rfl) (dss_one ds_never) dss_nil)
  (dss_one (ds_ret (de_callTy dc_intS rfl B.int_ (by decide +kernel) (da_cons (dv 5) da_nil)))))))
theorem c_number_in  (B : Blt mg) (G : Glo K mg A) (T : At K mg "number_in" S_number_in) : Cal P w K mg base "number_in" 1 5 (φ_number_in A) :=
  T.cal sc_number_in (d_number_in  B G) fun _ _ _ _ _ _ us hl => match us, hl with | [_, _, _, _, _], _ => rfl
abbrev S_check_end : Stmt := topS 22
abbrev N_check_end : List Str := ["words", "many", "line"]
theorem sc_check_end : FnScope N_check_end ["words", "many", "line"] (defScope S_check_end) := ⟨rfl, rfl, rfl, by decide +kernel, rfl, by decide +kernel, by decide +kernel⟩
theorem d_check_end  (B : Blt mg) (G : Glo K mg A) (E : WX) : DSs ⟨P, w, K, mg, base, N_check_end, defScope S_check_end, fun _ => true, 0, E⟩ (defBody S_check_end) (b_check_end A) := by
  have hN : N_check_end.Nodup := sc_check_end.nd
  exact (dss_one (ds_if (dt_cmp do_gtA (de_callB dc_len rfl B.len_ (by decide +kernel) (da_cons (dv 0) da_nil)) (dv 1) (nomark _)) (dss_one ds_never) dss_nil))
theorem c_check_end  (B : Blt mg) (G : Glo K mg A) (T : At K mg "check_end" S_check_end) : Cal P w K mg base "check_end" 1 3 (φ_check_end A) :=
  T.cal sc_check_end (d_check_end  B G) fun _ _ _ _ _ _ us hl => match us, hl with | [_, _, _], _ => rfl
abbrev S_take_carry : Stmt := topS 23
abbrev N_take_carry : List Str := ["words", "wheels", "carries", "line", "last", "first", "second"]
theorem sc_take_carry : FnScope N_take_carry ["words", "wheels", "carries", "line"] (defScope S_take_carry) := ⟨rfl, rfl, rfl, by decide +kernel, rfl, by decide +kernel, by decide +kernel⟩
theorem d_take_carry (c_check_end : Cal P w K mg base "check_end" 1 3 (φ_check_end A)) (c_number_in : Cal P w K mg base "number_in" 1 5 (φ_number_in A)) (B : Blt mg) (G : Glo K mg A) (E : WX) : DSs ⟨P, w, K, mg, base, N_take_carry, defScope S_take_carry, fun _ => true, 1, E⟩ (defBody S_take_carry) (b_take_carry A) := by
  have hN : N_take_carry.Nodup := sc_take_carry.nd
  exact (dss_cons (ds_set 4 (de_if (dt_cmp do_ne (dv 2) (de_tup da_nil) (nomark _)) (de_ix (dv 2) (de_neg de_int)) (de_tup (da_cons de_int (da_cons de_int da_nil)))))
  (dss_cons (ds_set 5 (dcall c_number_in (show (1 : Nat) ≤ 1 by decide) (da_cons (dv 0) (da_cons de_int (da_cons (de_ix (dv 4) de_int) (da_cons (de_op do_sub (dv 1) de_int) (da_cons (dv 3) da_nil)))))))
  (dss_cons (ds_set 6 (dcall c_number_in (show (1 : Nat) ≤ 1 by decide) (da_cons (dv 0) (da_cons de_int (da_cons (de_if (dt_cmp do_eq (dv 5) (de_ix (dv 4) de_int) (nomark _)) (de_op do_add (de_ix (dv 4) de_int) de_int) (de_op do_add (dv 5) de_int)) (da_cons (de_op do_sub (dv 1) de_int) (da_cons (dv 3) da_nil)))))))
  (dss_cons (ds_expr (dcall c_check_end (show (1 : Nat) ≤ 1 by decide) (da_cons (dv 0) (da_cons de_int (da_cons (dv 3) da_nil)))))
  (dss_one (ds_ret (de_tup (da_cons (dv 5) (da_cons (dv 6) da_nil)))))))))
theorem c_take_carry (c_check_end : Cal P w K mg base "check_end" 1 3 (φ_check_end A)) (c_number_in : Cal P w K mg base "number_in" 1 5 (φ_number_in A)) (B : Blt mg) (G : Glo K mg A) (T : At K mg "take_carry" S_take_carry) : Cal P w K mg base "take_carry" 2 4 (φ_take_carry A) :=
  T.cal sc_take_carry (d_take_carry c_check_end c_number_in B G) fun _ _ _ _ _ _ us hl => match us, hl with | [_, _, _, _], _ => rfl
abbrev S_take_lever : Stmt := topS 24
abbrev N_take_lever : List Str := ["words", "wheels", "line", "found", "at"]
theorem sc_take_lever : FnScope N_take_lever ["words", "wheels", "line"] (defScope S_take_lever) := ⟨rfl, rfl, rfl, by decide +kernel, rfl, by decide +kernel, by decide +kernel⟩
theorem d_take_lever (c_number_in : Cal P w K mg base "number_in" 1 5 (φ_number_in A)) (B : Blt mg) (G : Glo K mg A) (E : WX) : DSs ⟨P, w, K, mg, base, N_take_lever, defScope S_take_lever, fun _ => true, 1, E⟩ (defBody S_take_lever) (b_take_lever A) := by
  have hN : N_take_lever.Nodup := sc_take_lever.nd
  exact (dss_cons (ds_set 3 (de_tup (da_cons (dcall c_number_in (show (1 : Nat) ≤ 1 by decide) (da_cons (dv 0) (da_cons de_int (da_cons de_int (da_cons (de_op do_sub (dv 1) de_int) (da_cons (dv 2) da_nil)))))) da_nil)))
  (dss_cons (ds_for (di_range2 de_int (de_callB dc_len rfl B.len_ (by decide +kernel) (da_cons (dv 0) da_nil)) rfl B.range_) (dg_of (dgn_name 4)) (dss_one (ds_set 3 (de_op do_add (dv 3) (de_tup (da_cons (dcall c_number_in (show (1 : Nat) ≤ 1 by decide) (da_cons (dv 0) (da_cons (dv 4) (da_cons (de_op do_add (de_ix (dv 3) (de_neg de_int)) de_int) (da_cons (de_op do_sub (dv 1) de_int) (da_cons (dv 2) da_nil)))))) da_nil))))))
  (dss_one (ds_ret (dv 3)))))
theorem c_take_lever (c_number_in : Cal P w K mg base "number_in" 1 5 (φ_number_in A)) (B : Blt mg) (G : Glo K mg A) (T : At K mg "take_lever" S_take_lever) : Cal P w K mg base "take_lever" 2 3 (φ_take_lever A) :=
  T.cal sc_take_lever (d_take_lever c_number_in B G) fun _ _ _ _ _ _ us hl => match us, hl with | [_, _, _], _ => rfl
abbrev S_read : Stmt := topS 25
abbrev N_read : List Str := ["text", "rows", "marks", "carries", "levers", "line", "words", "head", "word"]
theorem sc_read : FnScope N_read ["text"] (defScope S_read) := ⟨rfl, rfl, rfl, by decide +kernel, rfl, by decide +kernel, by decide +kernel⟩
theorem d_read (c_Board_init : CalI P w K mg base A.Board "Board" 4 3 (φ_Board_init A)) (c_check_end : Cal P w K mg base "check_end" 1 3 (φ_check_end A)) (c_number_in : Cal P w K mg base "number_in" 1 5 (φ_number_in A)) (c_take_carry : Cal P w K mg base "take_carry" 2 4 (φ_take_carry A)) (c_take_lever : Cal P w K mg base "take_lever" 2 3 (φ_take_lever A)) (B : Blt mg) (G : Glo K mg A) (E : WX) : DSs ⟨P, w, K, mg, base, N_read, defScope S_read, fun _ => true, 5, E⟩ (defBody S_read) (b_read A) := by
  have hN : N_read.Nodup := sc_read.nd
  exact (dss_cons (ds_thenFrz 1 (ds_setLc 1 [("line", 5)] (di_seq (de_new (dn_split (dv 0) de_str))) (show blkC N_read (defScope S_read) _ _ = true from by decide +kernel) (dgn_name 5) dts_nil (de_new (dn_lc [("word", 8)] (di_seq (de_new (dn_split (dv 5) de_str))) (show blkC N_read (relS _ (defScope S_read)) _ _ = true from by decide +kernel) (dgn_name 8) (dts_one (dt_cmp do_ne (dv 8) de_str (nomark _))) (dv 8)))))
  (dss_cons (ds_parN (dm_val (de_tup da_nil) (dm_val (de_tup da_nil) (dm_val (de_tup da_nil) dm_nil))) (dnm_cons 2 (dnm_cons 3 (dnm_cons 4 dnm_nil))))
  (dss_cons (ds_for (di_enum1 (dv 1) rfl B.enumerate_) (dg_of (dgn_tup (dgns_cons (dgn_name 5) (dgns_cons (dgn_name 6) dgns_nil)))) (dss_cons (ds_set 7 (de_slice (dv 6) dop_none (dop_some de_int)))
  (dss_one (ds_if (DW.dt (dw_and (dt_cmp do_eq (dv 7) (de_new (dn_lst (da_cons (de_cstr G.WHEEL rfl) da_nil))) (nomark _)) (dw_and (dt_cmp do_ltA (de_callB dc_len rfl B.len_ (by decide +kernel) (da_cons (dv 2) da_nil)) (de_cint G.MOST_WHEELS rfl) (nomark _)) (dw_and (dt_cmp do_eq (dv 3) (de_tup da_nil) (nomark _)) (dw_and1 (dt_cmp do_eq (dv 4) (de_tup da_nil) (nomark _))))))) (dss_cons (ds_set 2 (de_op do_add (dv 2) (de_tup (da_cons (dcall c_number_in (show (1 : Nat) ≤ 5 by decide) (da_cons (dv 6) (da_cons de_int (da_cons (de_cint G.LEAST_MARKS rfl) (da_cons (de_cint G.MOST_MARKS rfl) (da_cons (dv 5) da_nil)))))) da_nil))))
  (dss_one (ds_expr (dcall c_check_end (show (1 : Nat) ≤ 5 by decide) (da_cons (dv 6) (da_cons de_int (da_cons (dv 5) da_nil))))))) (dss_one (ds_if (DW.dt (dw_and (dt_cmp do_eq (dv 7) (de_new (dn_lst (da_cons (de_cstr G.CARRY rfl) da_nil))) (nomark _)) (dw_and (dt_cmp do_ne (dv 2) (de_tup da_nil) (nomark _)) (dw_and1 (dt_cmp do_eq (dv 4) (de_tup da_nil) (nomark _)))))) (dss_one (ds_set 3 (de_op do_add (dv 3) (de_tup (da_cons (dcall c_take_carry (show (2 : Nat) ≤ 5 by decide) (da_cons (dv 6) (da_cons (de_callB dc_len rfl B.len_ (by decide +kernel) (da_cons (dv 2) da_nil)) (da_cons (dv 3) (da_cons (dv 5) da_nil))))) da_nil))))) (dss_one (ds_if (DW.dt (dw_and (dt_cmp do_eq (dv 7) (de_new (dn_lst (da_cons (de_cstr G.LEVER rfl) da_nil))) (nomark _)) (dw_and (dt_cmp do_ne (dv 2) (de_tup da_nil) (nomark _)) (dw_and1 (dt_cmp do_ltA (de_callB dc_len rfl B.len_ (by decide +kernel) (da_cons (dv 4) da_nil)) (de_cint G.MOST_LEVERS rfl) (nomark _)))))) (dss_one (ds_set 4 (de_op do_add (dv 4) (de_tup (da_cons (dcall c_take_lever (show (2 : Nat) ≤ 5 by decide) (da_cons (dv 6) (da_cons (de_callB dc_len rfl B.len_ (by decide +kernel) (da_cons (dv 2) da_nil)) (da_cons (dv 5) da_nil)))) da_nil))))) (dss_one ds_never)))))))))
  (dss_cons (ds_if (dt_cmp do_eq (dv 4) (de_tup da_nil) (nomark _)) (dss_one ds_never) dss_nil)
  (dss_one (ds_ret (dmk c_Board_init (show (4 + 1 : Nat) ≤ 5 by decide) (da_cons (dv 2) (da_cons (dv 3) (da_cons (dv 4) da_nil))))))))))
theorem c_read (c_Board_init : CalI P w K mg base A.Board "Board" 4 3 (φ_Board_init A)) (c_check_end : Cal P w K mg base "check_end" 1 3 (φ_check_end A)) (c_number_in : Cal P w K mg base "number_in" 1 5 (φ_number_in A)) (c_take_carry : Cal P w K mg base "take_carry" 2 4 (φ_take_carry A)) (c_take_lever : Cal P w K mg base "take_lever" 2 3 (φ_take_lever A)) (B : Blt mg) (G : Glo K mg A) (T : At K mg "read" S_read) : Cal P w K mg base "read" 6 1 (φ_read A) :=
  T.cal sc_read (d_read c_Board_init c_check_end c_number_in c_take_carry c_take_lever B G) fun _ _ _ _ _ _ us hl => match us, hl with | [_], _ => rfl
abbrev S_law_mix : Stmt := topS 27
abbrev N_law_mix : List Str := ["_law_script", "_law_seed", "_law_state", "_law_cell"]
theorem sc_law_mix : FnScope N_law_mix ["_law_script", "_law_seed"] (defScope S_law_mix) := ⟨rfl, rfl, rfl, by decide +kernel, rfl, by decide +kernel, by decide +kernel⟩
theorem d_law_mix  (B : Blt mg) (G : Glo K mg A) (E : WX) : DSs ⟨P, w, K, mg, base, N_law_mix, defScope S_law_mix, fun _ => true, 0, E⟩ (defBody S_law_mix) (b_law_mix A) := by
  have hN : N_law_mix.Nodup := sc_law_mix.nd
  exact (dss_cons (ds_set 2 (dv 1))
  (dss_cons (ds_for (di_seq (dv 0)) (dg_of (dgn_name 3)) (dss_one (ds_set 2 (de_op do_mod (de_callTy dc_int rfl B.int_ (by decide +kernel) (da_cons (de_op do_add (de_op do_add (de_op do_mul (dv 2) de_int) (de_op do_mod (de_callTy dc_int rfl B.int_ (by decide +kernel) (da_cons (dv 3) da_nil)) de_int)) de_int) da_nil)) de_int))))
  (dss_one (ds_retOwn (dm_val (dv 2) (dm_new (dn_callTy dn_list rfl B.list_ (by decide +kernel) (da_cons (dv 0) da_nil)) (dm_val de_int dm_nil)))))))
theorem c_law_mix  (B : Blt mg) (G : Glo K mg A) (T : At K mg "_law_mix" S_law_mix) : Cal P w K mg base "_law_mix" 1 2 (φ_law_mix A) :=
  T.cal sc_law_mix (d_law_mix  B G) fun _ _ _ _ _ _ us hl => match us, hl with | [_, _], _ => rfl
abbrev S_law_next : Stmt := topS 28
abbrev N_law_next : List Str := ["_law_h", "_law_cap", "_law_cell"]
theorem sc_law_next : FnScope N_law_next ["_law_h", "_law_cap"] (defScope S_law_next) := ⟨rfl, rfl, rfl, by decide +kernel, rfl, by decide +kernel, by decide +kernel⟩
theorem d_law_next  (B : Blt mg) (G : Glo K mg A) (E : WX) : DSs ⟨P, w, K, mg, base, N_law_next, defScope S_law_next, fun _ => true, 0, E⟩ (defBody S_law_next) (b_law_next A) := by
  have hN : N_law_next.Nodup := sc_law_next.nd
  exact (dss_cons (ds_set 2 (de_ix (de_op do_add (de_ix (dv 0) de_int) (de_new (dn_lst (da_cons de_int da_nil)))) (de_op do_mod (de_callTy dc_int rfl B.int_ (by decide +kernel) (da_cons (de_ix (dv 0) de_int) da_nil)) (de_callB dc_max2 rfl B.max_ (by decide +kernel) (da_cons de_int (da_cons (de_callB dc_len rfl B.len_ (by decide +kernel) (da_cons (de_ix (dv 0) de_int) da_nil)) da_nil))))))
  (dss_cons (ds_if (dt_cmp do_geA (dv 2) (de_op do_pow de_int de_int) (nomark _)) (dss_cons (ds_asg (de_op do_div (dv 2) (dv 1)) (dg_sub (de_ix (dv 0) de_int) (de_op do_mod (de_callTy dc_int rfl B.int_ (by decide +kernel) (da_cons (de_ix (dv 0) de_int) da_nil)) (de_callB dc_len rfl B.len_ (by decide +kernel) (da_cons (de_ix (dv 0) de_int) da_nil)))))
  (dss_one (ds_ret (de_op do_mod (de_callTy dc_int rfl B.int_ (by decide +kernel) (da_cons (dv 2) da_nil)) (dv 1))))) dss_nil)
  (dss_cons (ds_asg (de_op do_mod (de_callTy dc_int rfl B.int_ (by decide +kernel) (da_cons (de_op do_add (de_op do_add (de_op do_mul (de_ix (dv 0) de_int) de_int) (de_op do_mul (dv 2) de_int)) de_int) da_nil)) de_int) (dg_sub (dv 0) de_int))
  (dss_cons (ds_asg (de_op do_add (de_ix (dv 0) de_int) de_int) (dg_sub (dv 0) de_int))
  (dss_one (ds_ret (de_op do_mod (de_callTy dc_int rfl B.int_ (by decide +kernel) (da_cons (de_op do_div (de_ix (dv 0) de_int) de_int) da_nil)) (dv 1))))))))
theorem c_law_next  (B : Blt mg) (G : Glo K mg A) (T : At K mg "_law_next" S_law_next) : Cal P w K mg base "_law_next" 1 2 (φ_law_next A) :=
  T.cal sc_law_next (d_law_next  B G) fun _ _ _ _ _ _ us hl => match us, hl with | [_, _], _ => rfl
abbrev S_law_alike : Stmt := topS 29
abbrev N_law_alike : List Str := ["_law_found", "_law_due", "_law_k"]
theorem sc_law_alike : FnScope N_law_alike ["_law_found", "_law_due"] (defScope S_law_alike) := ⟨rfl, rfl, rfl, by decide +kernel, rfl, by decide +kernel, by decide +kernel⟩
theorem d_law_alike {k : Nat} {r : Fn} (c_rec : Cal P w K mg base "_law_alike" k 2 r) (B : Blt mg) (G : Glo K mg A) (E : WX) : DSs ⟨P, w, K, mg, base, N_law_alike, defScope S_law_alike, fun _ => true, k, E⟩ (defBody S_law_alike) (b_law_alike A r) := by
  have hN : N_law_alike.Nodup := sc_law_alike.nd
  exact (dss_cons (ds_if (dt_val (de_callB dc_isiS rfl B.isinstance_ (by decide +kernel) (da_cons (dv 1) (da_cons (de_tup (da_cons (de_ty rfl B.tuple_ boot_tuple) (da_cons (de_ty rfl B.list_ boot_list) da_nil))) da_nil))) (fun _ _ => rfl)) (dss_cons (ds_if (DW.dt (dw_or (dt_not (dt_val (de_callB dc_isiS rfl B.isinstance_ (by decide +kernel) (da_cons (dv 0) (da_cons (de_tup (da_cons (de_ty rfl B.tuple_ boot_tuple) (da_cons (de_ty rfl B.list_ boot_list) da_nil))) da_nil))) (fun _ _ => rfl))) (dw_or1 (dt_cmp do_ne (de_callB dc_isiS rfl B.isinstance_ (by decide +kernel) (da_cons (dv 0) (da_cons (de_ty rfl B.list_ boot_list) da_nil))) (de_callB dc_isiS rfl B.isinstance_ (by decide +kernel) (da_cons (dv 1) (da_cons (de_ty rfl B.list_ boot_list) da_nil))) (nomark _))))) (dss_one (ds_ret de_bl)) dss_nil)
  (dss_cons (ds_if (dt_cmp do_ne (de_callB dc_len rfl B.len_ (by decide +kernel) (da_cons (dv 0) da_nil)) (de_callB dc_len rfl B.len_ (by decide +kernel) (da_cons (dv 1) da_nil)) (nomark _)) (dss_one (ds_ret de_bl)) dss_nil)
  (dss_one (ds_ret (de_cmp do_eq (de_new (dn_lc [("_law_k", 2)] (di_range1 (de_callB dc_len rfl B.len_ (by decide +kernel) (da_cons (dv 1) da_nil)) rfl B.range_) (show blkC N_law_alike (defScope S_law_alike) _ _ = true from by decide +kernel) (dgn_name 2) (dts_one (dt_not (dt_val (dcall c_rec (Nat.le_refl _) (da_cons (de_ix (dv 0) (dv 2)) (da_cons (de_ix (dv 1) (dv 2)) da_nil))) (fun _ _ => rfl)))) (dv 2))) (de_new (dn_lst da_nil)) (nomark _)))))) dss_nil)
  (dss_cons (ds_if (DW.dt (dw_or (dt_cmp do_is (dv 1) de_non (nomark _)) (dw_or1 (dt_val (de_callB dc_isiS rfl B.isinstance_ (by decide +kernel) (da_cons (dv 1) (da_cons (de_ty rfl B.str_ boot_str) da_nil))) (fun _ _ => rfl))))) (dss_one (ds_ret (de_and (de_cmp do_eq (dv 0) (dv 1) (nomark _)) (de_one (de_cmp do_eq (de_callB dc_isiS rfl B.isinstance_ (by decide +kernel) (da_cons (dv 0) (da_cons (de_ty rfl B.str_ boot_str) da_nil))) (de_callB dc_isiS rfl B.isinstance_ (by decide +kernel) (da_cons (dv 1) (da_cons (de_ty rfl B.str_ boot_str) da_nil))) (nomark _)))))) dss_nil)
  (dss_one (ds_ret (de_and (de_callB dc_isiS rfl B.isinstance_ (by decide +kernel) (da_cons (dv 0) (da_cons (de_ty rfl B.int_ boot_int) da_nil))) (de_and (de_cmp do_eq (de_callB dc_isiS rfl B.isinstance_ (by decide +kernel) (da_cons (dv 0) (da_cons (de_ty rfl B.bool_ boot_bool) da_nil))) (de_callB dc_isiS rfl B.isinstance_ (by decide +kernel) (da_cons (dv 1) (da_cons (de_ty rfl B.bool_ boot_bool) da_nil))) (nomark _)) (de_one (de_cmp do_eq (dv 0) (dv 1) (nomark _)))))))))
theorem c_law_alike (B : Blt mg) (G : Glo K mg A) (T : At K mg "_law_alike" S_law_alike) : ∀ n, Cal P w K mg base "_law_alike" n 2 (φ_law_alike A n)
  | 0 => Cal.no T (ps := ["_law_found", "_law_due"]) fun _ _ _ _ _ _ us hl => match us, hl with | [_, _], _ => rfl
  | n + 1 => T.cal sc_law_alike (d_law_alike (c_law_alike B G T n) B G) fun _ _ _ _ _ _ us hl => match us, hl with | [_, _], _ => rfl
abbrev S_law_pick : Stmt := topS 30
abbrev N_law_pick : List Str := ["_law_h", "_law_things"]
theorem sc_law_pick : FnScope N_law_pick ["_law_h", "_law_things"] (defScope S_law_pick) := ⟨rfl, rfl, rfl, by decide +kernel, rfl, by decide +kernel, by decide +kernel⟩
theorem d_law_pick (c_law_next : Cal P w K mg base "_law_next" 1 2 (φ_law_next A)) (B : Blt mg) (G : Glo K mg A) (E : WX) : DSs ⟨P, w, K, mg, base, N_law_pick, defScope S_law_pick, fun _ => true, 1, E⟩ (defBody S_law_pick) (b_law_pick A) := by
  have hN : N_law_pick.Nodup := sc_law_pick.nd
  exact (dss_one (ds_ret (de_ix (dv 1) (dcall c_law_next (show (1 : Nat) ≤ 1 by decide) (da_cons (dv 0) (da_cons (de_callB dc_len rfl B.len_ (by decide +kernel) (da_cons (dv 1) da_nil)) da_nil))))))
theorem c_law_pick (c_law_next : Cal P w K mg base "_law_next" 1 2 (φ_law_next A)) (B : Blt mg) (G : Glo K mg A) (T : At K mg "_law_pick" S_law_pick) : Cal P w K mg base "_law_pick" 2 2 (φ_law_pick A) :=
  T.cal sc_law_pick (d_law_pick c_law_next B G) fun _ _ _ _ _ _ us hl => match us, hl with | [_, _], _ => rfl
abbrev S_law_parts : Stmt := topS 31
abbrev N_law_parts : List Str := ["_law_h", "_law_cap", "_law_many", "_law_marks", "_law_carries", "_law_one", "_law_other", "_law_levers", "_law_k", "_law_lever", "_law_wheel"]
theorem sc_law_parts : FnScope N_law_parts ["_law_h", "_law_cap"] (defScope S_law_parts) := ⟨rfl, rfl, rfl, by decide +kernel, rfl, by decide +kernel, by decide +kernel⟩
theorem d_law_parts (c_law_next : Cal P w K mg base "_law_next" 1 2 (φ_law_next A)) (c_law_pick : Cal P w K mg base "_law_pick" 2 2 (φ_law_pick A)) (B : Blt mg) (G : Glo K mg A) (E : WX) : DSs ⟨P, w, K, mg, base, N_law_parts, defScope S_law_parts, fun _ => true, 2, E⟩ (defBody S_law_parts) (b_law_parts A) := by
  have hN : N_law_parts.Nodup := sc_law_parts.nd
  exact (dss_cons (ds_set 2 (de_op do_add de_int (dcall c_law_next (show (1 : Nat) ≤ 2 by decide) (da_cons (dv 0) (da_cons de_int da_nil)))))
  (dss_cons (ds_set 3 (de_callTy dc_tuple rfl B.tuple_ (by decide +kernel) (da_cons (de_new (dn_lc [("_law_k", 8)] (di_range1 (dv 2) rfl B.range_) (show blkC N_law_parts (defScope S_law_parts) _ _ = true from by decide +kernel) (dgn_name 8) dts_nil (de_op do_add de_int (dcall c_law_next (show (1 : Nat) ≤ 2 by decide) (da_cons (dv 0) (da_cons (dcall c_law_pick (show (2 : Nat) ≤ 2 by decide) (da_cons (dv 0) (da_cons (de_new (dn_lst (da_cons de_int (da_cons (dv 1) da_nil)))) da_nil))) da_nil)))))) da_nil)))
  (dss_cons (ds_own 4 (dn_lst da_nil))
  (dss_cons (ds_for (di_range1 (dv 2) rfl B.range_) (dg_of (dgn_name 5)) (dss_one (ds_for (di_range2 (de_op do_add (dv 5) de_int) (dv 2) rfl B.range_) (dg_of (dgn_name 6)) (dss_one (ds_if (dt_cmp do_eq (dcall c_law_next (show (1 : Nat) ≤ 2 by decide) (da_cons (dv 0) (da_cons de_int da_nil))) de_int (nomark _)) (dss_one (ds_append (dv 4) (de_tup (da_cons (dv 5) (da_cons (dv 6) da_nil))))) dss_nil)))))
  (dss_cons (ds_own 7 (dn_lst da_nil))
  (dss_cons (ds_for (di_range1 (de_op do_add de_int (dcall c_law_next (show (1 : Nat) ≤ 2 by decide) (da_cons (dv 0) (da_cons de_int da_nil)))) rfl B.range_) (dg_of (dgn_name 8)) (dss_cons (ds_set 9 (de_callTy dc_tuple rfl B.tuple_ (by decide +kernel) (da_cons (de_new (dn_lc [("_law_wheel", 10)] (di_range1 (dv 2) rfl B.range_) (show blkC N_law_parts (defScope S_law_parts) _ _ = true from by decide +kernel) (dgn_name 10) (dts_one (dt_cmp do_eq (dcall c_law_next (show (1 : Nat) ≤ 2 by decide) (da_cons (dv 0) (da_cons de_int da_nil))) de_int (nomark _))) (dv 10))) da_nil)))
  (dss_one (ds_append (dv 7) (de_if (dt_cmp do_ne (dv 9) (de_tup da_nil) (nomark _)) (dv 9) (de_tup (da_cons (dcall c_law_next (show (1 : Nat) ≤ 2 by decide) (da_cons (dv 0) (da_cons (dv 2) da_nil))) da_nil)))))))
  (dss_one (ds_ret (de_tup (da_cons (dv 3) (da_cons (de_callTy dc_tuple rfl B.tuple_ (by decide +kernel) (da_cons (dv 4) da_nil)) (da_cons (de_callTy dc_tuple rfl B.tuple_ (by decide +kernel) (da_cons (dv 7) da_nil)) da_nil))))))))))))
theorem c_law_parts (c_law_next : Cal P w K mg base "_law_next" 1 2 (φ_law_next A)) (c_law_pick : Cal P w K mg base "_law_pick" 2 2 (φ_law_pick A)) (B : Blt mg) (G : Glo K mg A) (T : At K mg "_law_parts" S_law_parts) : Cal P w K mg base "_law_parts" 3 2 (φ_law_parts A) :=
  T.cal sc_law_parts (d_law_parts c_law_next c_law_pick B G) fun _ _ _ _ _ _ us hl => match us, hl with | [_, _], _ => rfl
abbrev S_law : Stmt := topS 32
abbrev N_law : List Str := ["_law_script", "_law_h", "_law_turn", "_law_marks", "_law_carries", "_law_levers", "_law_lines", "_law_board", "_law_text", "_law_wide", "_law_line", "_law_room", "_law_ends", "_law_some", "_law_found", "_law_most", "_law_one", "_law_other", "_law_lever", "_law_wheel"]
theorem sc_law : FnScope N_law ["_law_script"] (defScope S_law) := ⟨rfl, rfl, rfl, by decide +kernel, rfl, by decide +kernel, by decide +kernel⟩
theorem d_law (c_Board_init : CalI P w K mg base A.Board "Board" 4 3 (φ_Board_init A)) (c_Board_eq : CalM P w K mg base A.Board "__eq__" 1 2 (φ_Board_eq A)) (c_Board_carries : CalP P w K mg base A.Board "carries" 1 (φ_Board_carries A)) (c_Board_levers : CalP P w K mg base A.Board "levers" 1 (φ_Board_levers A)) (c_Board_marks : CalP P w K mg base A.Board "marks" 1 (φ_Board_marks A)) (c_law_alike : ∀ n, Cal P w K mg base "_law_alike" n 2 (φ_law_alike A n)) (c_law_mix : Cal P w K mg base "_law_mix" 1 2 (φ_law_mix A)) (c_law_next : Cal P w K mg base "_law_next" 1 2 (φ_law_next A)) (c_law_parts : Cal P w K mg base "_law_parts" 3 2 (φ_law_parts A)) (c_read : Cal P w K mg base "read" 6 1 (φ_read A)) (c_write : Cal P w K mg base "write" 1 1 (φ_write A)) (B : Blt mg) (G : Glo K mg A) (E : WX) : DSs ⟨P, w, K, mg, base, N_law, defScope S_law, fun _ => true, 6, E⟩ (defBody S_law) (b_law A) := by
  have hN : N_law.Nodup := sc_law.nd
  exact (dss_cons (ds_set 1 (dcall c_law_mix (show (1 : Nat) ≤ 6 by decide) (da_cons (dv 0) (da_cons de_int da_nil))))
  (dss_cons (ds_for (di_range1 de_int rfl B.range_) (dg_of (dgn_name 2)) (dss_cons (ds_asg (dcall c_law_parts (show (3 : Nat) ≤ 6 by decide) (da_cons (dv 1) (da_cons de_int da_nil))) (dg_of (dgn_tup (dgns_cons (dgn_name 3) (dgns_cons (dgn_name 4) (dgns_cons (dgn_name 5) dgns_nil))))))
  (dss_cons (ds_thenFrz 6 (ds_setLc 6 [("_law_most", 15)] (di_seq (dv 3)) (show blkC N_law (defScope S_law) _ _ = true from by decide +kernel) (dgn_name 15) dts_nil (de_op do_add de_str (de_callTy dc_strI rfl B.str_ (by decide +kernel) (da_cons (dv 15) da_nil)))))
  (dss_cons (ds_set 6 (de_op do_add (dv 6) (de_new (dn_lc [("_law_one", 16), ("_law_other", 17)] (di_seq (dv 4)) (show blkC N_law (defScope S_law) _ _ = true from by decide +kernel) (dgn_tup (dgns_cons (dgn_name 16) (dgns_cons (dgn_name 17) dgns_nil))) dts_nil (de_op do_add (de_op do_add (de_op do_add de_str (de_callTy dc_strI rfl B.str_ (by decide +kernel) (da_cons (dv 16) da_nil))) de_str) (de_callTy dc_strI rfl B.str_ (by decide +kernel) (da_cons (dv 17) da_nil)))))))
  (dss_cons (ds_set 6 (de_op do_add (dv 6) (de_new (dn_lc [("_law_lever", 18)] (di_seq (dv 5)) (show blkC N_law (defScope S_law) _ _ = true from by decide +kernel) (dgn_name 18) dts_nil (de_join de_str (de_op do_add (de_new (dn_lst (da_cons de_str da_nil))) (de_new (dn_lc [("_law_wheel", 19)] (di_seq (dv 18)) (show blkC N_law (relS _ (defScope S_law)) _ _ = true from by decide +kernel) (dgn_name 19) dts_nil (de_callTy dc_strI rfl B.str_ (by decide +kernel) (da_cons (dv 19) da_nil))))))))))
  (dss_cons (ds_par2 [7, 8] (dm_val (dmk c_Board_init (show (4 + 1 : Nat) ≤ 6 by decide) (da_cons (dv 3) (da_cons (dv 4) (da_cons (dv 5) da_nil)))) (dm_val (de_join de_str (dv 6)) dm_nil)) (hl := show locs N_law (defScope S_law) ["_law_board", "_law_text"] [7, 8] = true from by decide +kernel))
  (dss_cons (ds_if (dt_not (dt_val (dcall (c_law_alike 6) (show (6 : Nat) ≤ 6 by decide) (da_cons (dcall c_write (show (1 : Nat) ≤ 6 by decide) (da_cons (dv 7) da_nil)) (da_cons (dv 8) da_nil))) (fun _ _ => rfl))) (dss_one (ds_ret de_bl)) dss_nil)
  (dss_ownT (dn_lst da_nil) (dssT_cons (dsT_for (di_seq (dv 6)) (dg_of (dgn_name 10)) (dssT_room (de_op do_add de_int (dcall c_law_next (show (1 : Nat) ≤ 6 by decide) (da_cons (dv 1) (da_cons de_int da_nil)))) (dn_lst (da_cons (de_op do_mulS de_str (dcall c_law_next (show (1 : Nat) ≤ 6 by decide) (da_cons (dv 1) (da_cons de_int da_nil)))) (da_cons (de_op do_mulS de_str (dcall c_law_next (show (1 : Nat) ≤ 6 by decide) (da_cons (dv 1) (da_cons de_int da_nil)))) da_nil))) G.booked (hl := show okRoom N_law (defScope S_law) ["_law_room", "_law_ends", "_law_line", "_law_wide"] [11, 12, 10, 9] = true from by decide +kernel)))
  (dssT_of (dss_one (ds_frz 9 (ds_for (di_seq (de_new (dn_lst (da_cons (dv 8) (da_cons (de_join de_str (dv 9)) da_nil))))) (dg_of (dgn_name 13)) (dss_cons (ds_set 14 (dcall c_read (show (6 : Nat) ≤ 6 by decide) (da_cons (dv 13) da_nil)))
  (dss_cons (ds_if (dt_not (dt_val (dcall (c_law_alike 6) (show (6 : Nat) ≤ 6 by decide) (da_cons (de_new (dn_lst (da_cons (de_prop c_Board_marks (show (1 + 1 : Nat) ≤ 6 by decide) (dv 14) G.Board_cls) (da_cons (de_prop c_Board_carries (show (1 + 1 : Nat) ≤ 6 by decide) (dv 14) G.Board_cls) (da_cons (de_prop c_Board_levers (show (1 + 1 : Nat) ≤ 6 by decide) (dv 14) G.Board_cls) da_nil))))) (da_cons (de_new (dn_lst (da_cons (dv 3) (da_cons (dv 4) (da_cons (dv 5) da_nil))))) da_nil))) (fun _ _ => rfl))) (dss_one (ds_ret de_bl)) dss_nil)
  (dss_one (ds_if (DW.dt (dw_or (dt_not (dt_cmp (do_eqM G.Board_is c_Board_eq (show (1 : Nat) ≤ 6 by decide)) (dv 14) (dv 7) (nomark _))) (dw_or1 (dt_not (dt_val (dcall (c_law_alike 6) (show (6 : Nat) ≤ 6 by decide) (da_cons (dcall c_write (show (1 : Nat) ≤ 6 by decide) (da_cons (dv 14) da_nil)) (da_cons (dv 8) da_nil))) (fun _ _ => rfl)))))) (dss_one (ds_ret de_bl)) dss_nil)))))))))))))))))
  (dss_one (ds_ret de_bl))))
theorem c_law (c_Board_init : CalI P w K mg base A.Board "Board" 4 3 (φ_Board_init A)) (c_Board_eq : CalM P w K mg base A.Board "__eq__" 1 2 (φ_Board_eq A)) (c_Board_carries : CalP P w K mg base A.Board "carries" 1 (φ_Board_carries A)) (c_Board_levers : CalP P w K mg base A.Board "levers" 1 (φ_Board_levers A)) (c_Board_marks : CalP P w K mg base A.Board "marks" 1 (φ_Board_marks A)) (c_law_alike : ∀ n, Cal P w K mg base "_law_alike" n 2 (φ_law_alike A n)) (c_law_mix : Cal P w K mg base "_law_mix" 1 2 (φ_law_mix A)) (c_law_next : Cal P w K mg base "_law_next" 1 2 (φ_law_next A)) (c_law_parts : Cal P w K mg base "_law_parts" 3 2 (φ_law_parts A)) (c_read : Cal P w K mg base "read" 6 1 (φ_read A)) (c_write : Cal P w K mg base "write" 1 1 (φ_write A)) (B : Blt mg) (G : Glo K mg A) (T : At K mg "law" S_law) : Cal P w K mg base "law" 7 1 (φ_law A) :=
  T.cal sc_law (d_law c_Board_init c_Board_eq c_Board_carries c_Board_levers c_Board_marks c_law_alike c_law_mix c_law_next c_law_parts c_read c_write B G) fun _ _ _ _ _ _ us hl => match us, hl with | [_], _ => rfl
end
end HW
namespace HW
open PySem PySem.Spec PyProof.Rows L2 DL
theorem top {l : PySem.W.OpenLaw} {w : World} {K : PySem.W.Frag} {h : Heap} {mg : Str → Option Value} {fa : Addr} (X : K.In h) (G : h.Ns mainGlobals mg) (hfa : mg "law" = some (.ref fa))
    {C_Board f_is_integer f_is_marks f_check_frame f_is_lever f_Board_init f_Board_marks p_Board_marks f_Board_carries p_Board_carries f_Board_levers p_Board_levers f_Board_eq f_write f_number_in f_check_end f_take_carry f_take_lever f_read f_law_mix f_law_next f_law_alike f_law_pick f_law_parts f_law : Addr} {od_is_integer an_is_integer od_is_marks an_is_marks od_check_frame an_check_frame od_is_lever an_is_lever od_Board_init an_Board_init od_Board_marks an_Board_marks od_Board_carries an_Board_carries od_Board_levers an_Board_levers od_Board_eq an_Board_eq od_write an_write od_number_in an_number_in od_check_end an_check_end od_take_carry an_take_carry od_take_lever an_take_lever od_read an_read od_law_mix an_law_mix od_law_next an_law_next od_law_alike an_law_alike od_law_pick an_law_pick od_law_parts an_law_parts od_law an_law : Option Addr} {sl_is_integer sl_is_marks sl_check_frame sl_is_lever sl_Board_init sl_Board_marks sl_Board_carries sl_Board_levers sl_Board_eq sl_write sl_number_in sl_check_end sl_take_carry sl_take_lever sl_read sl_law_mix sl_law_next sl_law_alike sl_law_pick sl_law_parts sl_law : Array (Option Value)} {oc_is_integer kV_is_integer dc_is_integer pm_is_integer cd_is_integer ct_is_integer oc_is_marks kV_is_marks dc_is_marks pm_is_marks cd_is_marks ct_is_marks oc_check_frame kV_check_frame dc_check_frame pm_check_frame cd_check_frame ct_check_frame oc_is_lever kV_is_lever dc_is_lever pm_is_lever cd_is_lever ct_is_lever oc_Board_init kV_Board_init dc_Board_init pm_Board_init cd_Board_init ct_Board_init oc_Board_marks kV_Board_marks dc_Board_marks pm_Board_marks cd_Board_marks ct_Board_marks oc_Board_carries kV_Board_carries dc_Board_carries pm_Board_carries cd_Board_carries ct_Board_carries oc_Board_levers kV_Board_levers dc_Board_levers pm_Board_levers cd_Board_levers ct_Board_levers oc_Board_eq kV_Board_eq dc_Board_eq pm_Board_eq cd_Board_eq ct_Board_eq oc_write kV_write dc_write pm_write cd_write ct_write oc_number_in kV_number_in dc_number_in pm_number_in cd_number_in ct_number_in oc_check_end kV_check_end dc_check_end pm_check_end cd_check_end ct_check_end oc_take_carry kV_take_carry dc_take_carry pm_take_carry cd_take_carry ct_take_carry oc_take_lever kV_take_lever dc_take_lever pm_take_lever cd_take_lever ct_take_lever oc_read kV_read dc_read pm_read cd_read ct_read oc_law_mix kV_law_mix dc_law_mix pm_law_mix cd_law_mix ct_law_mix oc_law_next kV_law_next dc_law_next pm_law_next cd_law_next ct_law_next oc_law_alike kV_law_alike dc_law_alike pm_law_alike cd_law_alike ct_law_alike oc_law_pick kV_law_pick dc_law_pick pm_law_pick cd_law_pick ct_law_pick oc_law_parts kV_law_parts dc_law_parts pm_law_parts cd_law_parts ct_law_parts oc_law kV_law dc_law pm_law cd_law ct_law : Value}
    {t_CARRY t_LEAST_MARKS t_LEVER t_MOST_LEVERS t_MOST_MARKS t_MOST_WHEELS t_WHEEL : Tok} {rs_Board_marks rs_Board_carries rs_Board_levers : List Value} {bk_c : Value} {bk_d : Option Addr} {bk_e : Array DictEntry} {bk_n : Nat} {bk_s : Array (Option Value)}
    (aC_Board : PySem.W.nsIn K mainGlobals "Board" = some (some (.ref C_Board)))
    (pg_Board : PySem.W.plainGet K C_Board Str.empty = true)
    (hd_Board : PySem.W.hasDictIn K C_Board = true)
    (po_Board : PySem.W.plainOver K C_Board = true)
    (sa_Board : PySem.W.findIn K (.ref C_Board) "__setattr__" = some (some (.builtin "object.__setattr__")))
    (mk_Board : PySem.W.makesIn K C_Board = true)
    (kc_Board : PySem.W.keepIn K (.ref C_Board) = true)
    (no_Board_parts : PySem.W.findIn K (.ref C_Board) "parts" = some none)
    (yhn : PySem.W.specialIn K (.builtin "object.__class__") "__get__" = some (some (.builtin "getset_descriptor.__get__")))
    (yht : PySem.W.takesIn K (.builtin "object.__class__") = some true)
    (ia_Board : PySem.W.findIn K (.ref C_Board) "__class__" = some (some (.builtin "object.__class__")))
    (im_Board : PySem.W.mroIn K C_Board (.type "object") = some true)
    (il_Board : PySem.W.subIn K (.type "list") (.ref C_Board) = some false)
    (it_Board : PySem.W.subIn K (.type "tuple") (.ref C_Board) = some false)
    (ii_Board : PySem.W.isClsIn K C_Board = true)
    (iy_Board : PySem.W.typeIn K (.ref C_Board) = some (.type "type"))
    (a_is_integer : PySem.W.nsIn K mainGlobals "is_integer" = some (some (.ref f_is_integer)))
    (l_is_integer : K.lookup f_is_integer = some ⟨oc_is_integer, od_is_integer, .func (PySem.W.fnOf "is_integer" "is_integer" (defArgs S_is_integer) (defBody S_is_integer) (defScope S_is_integer) .none kV_is_integer dc_is_integer pm_is_integer an_is_integer cd_is_integer ct_is_integer), sl_is_integer⟩)
    (c_is_integer : PySem.W.codeIn K cd_is_integer "is_integer" = true)
    (k_is_integer : PySem.W.keepIn K (.ref f_is_integer) = true)
    (a_is_marks : PySem.W.nsIn K mainGlobals "is_marks" = some (some (.ref f_is_marks)))
    (l_is_marks : K.lookup f_is_marks = some ⟨oc_is_marks, od_is_marks, .func (PySem.W.fnOf "is_marks" "is_marks" (defArgs S_is_marks) (defBody S_is_marks) (defScope S_is_marks) .none kV_is_marks dc_is_marks pm_is_marks an_is_marks cd_is_marks ct_is_marks), sl_is_marks⟩)
    (c_is_marks : PySem.W.codeIn K cd_is_marks "is_marks" = true)
    (k_is_marks : PySem.W.keepIn K (.ref f_is_marks) = true)
    (a_check_frame : PySem.W.nsIn K mainGlobals "check_frame" = some (some (.ref f_check_frame)))
    (l_check_frame : K.lookup f_check_frame = some ⟨oc_check_frame, od_check_frame, .func (PySem.W.fnOf "check_frame" "check_frame" (defArgs S_check_frame) (defBody S_check_frame) (defScope S_check_frame) .none kV_check_frame dc_check_frame pm_check_frame an_check_frame cd_check_frame ct_check_frame), sl_check_frame⟩)
    (c_check_frame : PySem.W.codeIn K cd_check_frame "check_frame" = true)
    (k_check_frame : PySem.W.keepIn K (.ref f_check_frame) = true)
    (a_is_lever : PySem.W.nsIn K mainGlobals "is_lever" = some (some (.ref f_is_lever)))
    (l_is_lever : K.lookup f_is_lever = some ⟨oc_is_lever, od_is_lever, .func (PySem.W.fnOf "is_lever" "is_lever" (defArgs S_is_lever) (defBody S_is_lever) (defScope S_is_lever) .none kV_is_lever dc_is_lever pm_is_lever an_is_lever cd_is_lever ct_is_lever), sl_is_lever⟩)
    (c_is_lever : PySem.W.codeIn K cd_is_lever "is_lever" = true)
    (k_is_lever : PySem.W.keepIn K (.ref f_is_lever) = true)
    (a_Board_init : PySem.W.findIn K (.ref C_Board) "__init__" = some (some (.ref f_Board_init)))
    (l_Board_init : K.lookup f_Board_init = some ⟨oc_Board_init, od_Board_init, .func (PySem.W.fnOf "__init__" "Board.__init__" (defArgs S_Board_init) (defBody S_Board_init) (defScope S_Board_init) .none kV_Board_init dc_Board_init pm_Board_init an_Board_init cd_Board_init ct_Board_init), sl_Board_init⟩)
    (c_Board_init : PySem.W.codeIn K cd_Board_init "Board.__init__" = true)
    (k_Board_init : PySem.W.keepIn K (.ref f_Board_init) = true)
    (i_Board_init : PySem.W.isFn K (.ref f_Board_init) = true)
    (a_Board_marks : PySem.W.findIn K (.ref C_Board) "marks" = some (some (.ref p_Board_marks)))
    (r_Board_marks : PySem.W.recIn K p_Board_marks "property" = some (.ref f_Board_marks :: rs_Board_marks))
    (l_Board_marks : K.lookup f_Board_marks = some ⟨oc_Board_marks, od_Board_marks, .func (PySem.W.fnOf "marks" "Board.marks" (defArgs S_Board_marks) (defBody S_Board_marks) (defScope S_Board_marks) .none kV_Board_marks dc_Board_marks pm_Board_marks an_Board_marks cd_Board_marks ct_Board_marks), sl_Board_marks⟩)
    (c_Board_marks : PySem.W.codeIn K cd_Board_marks "Board.marks" = true)
    (k_Board_marks : PySem.W.keepIn K (.ref f_Board_marks) = true)
    (g_Board_marks : PySem.W.specialIn K (.ref p_Board_marks) "__get__" = some (some (.builtin "property.__get__")))
    (t_Board_marks : PySem.W.takesIn K (.ref p_Board_marks) = some true)
    (a_Board_carries : PySem.W.findIn K (.ref C_Board) "carries" = some (some (.ref p_Board_carries)))
    (r_Board_carries : PySem.W.recIn K p_Board_carries "property" = some (.ref f_Board_carries :: rs_Board_carries))
    (l_Board_carries : K.lookup f_Board_carries = some ⟨oc_Board_carries, od_Board_carries, .func (PySem.W.fnOf "carries" "Board.carries" (defArgs S_Board_carries) (defBody S_Board_carries) (defScope S_Board_carries) .none kV_Board_carries dc_Board_carries pm_Board_carries an_Board_carries cd_Board_carries ct_Board_carries), sl_Board_carries⟩)
    (c_Board_carries : PySem.W.codeIn K cd_Board_carries "Board.carries" = true)
    (k_Board_carries : PySem.W.keepIn K (.ref f_Board_carries) = true)
    (g_Board_carries : PySem.W.specialIn K (.ref p_Board_carries) "__get__" = some (some (.builtin "property.__get__")))
    (t_Board_carries : PySem.W.takesIn K (.ref p_Board_carries) = some true)
    (a_Board_levers : PySem.W.findIn K (.ref C_Board) "levers" = some (some (.ref p_Board_levers)))
    (r_Board_levers : PySem.W.recIn K p_Board_levers "property" = some (.ref f_Board_levers :: rs_Board_levers))
    (l_Board_levers : K.lookup f_Board_levers = some ⟨oc_Board_levers, od_Board_levers, .func (PySem.W.fnOf "levers" "Board.levers" (defArgs S_Board_levers) (defBody S_Board_levers) (defScope S_Board_levers) .none kV_Board_levers dc_Board_levers pm_Board_levers an_Board_levers cd_Board_levers ct_Board_levers), sl_Board_levers⟩)
    (c_Board_levers : PySem.W.codeIn K cd_Board_levers "Board.levers" = true)
    (k_Board_levers : PySem.W.keepIn K (.ref f_Board_levers) = true)
    (g_Board_levers : PySem.W.specialIn K (.ref p_Board_levers) "__get__" = some (some (.builtin "property.__get__")))
    (t_Board_levers : PySem.W.takesIn K (.ref p_Board_levers) = some true)
    (a_Board_eq : PySem.W.findIn K (.ref C_Board) "__eq__" = some (some (.ref f_Board_eq)))
    (l_Board_eq : K.lookup f_Board_eq = some ⟨oc_Board_eq, od_Board_eq, .func (PySem.W.fnOf "__eq__" "Board.__eq__" (defArgs S_Board_eq) (defBody S_Board_eq) (defScope S_Board_eq) .none kV_Board_eq dc_Board_eq pm_Board_eq an_Board_eq cd_Board_eq ct_Board_eq), sl_Board_eq⟩)
    (c_Board_eq : PySem.W.codeIn K cd_Board_eq "Board.__eq__" = true)
    (k_Board_eq : PySem.W.keepIn K (.ref f_Board_eq) = true)
    (i_Board_eq : PySem.W.isFn K (.ref f_Board_eq) = true)
    (a_write : PySem.W.nsIn K mainGlobals "write" = some (some (.ref f_write)))
    (l_write : K.lookup f_write = some ⟨oc_write, od_write, .func (PySem.W.fnOf "write" "write" (defArgs S_write) (defBody S_write) (defScope S_write) .none kV_write dc_write pm_write an_write cd_write ct_write), sl_write⟩)
    (c_write : PySem.W.codeIn K cd_write "write" = true)
    (k_write : PySem.W.keepIn K (.ref f_write) = true)
    (a_number_in : PySem.W.nsIn K mainGlobals "number_in" = some (some (.ref f_number_in)))
    (l_number_in : K.lookup f_number_in = some ⟨oc_number_in, od_number_in, .func (PySem.W.fnOf "number_in" "number_in" (defArgs S_number_in) (defBody S_number_in) (defScope S_number_in) .none kV_number_in dc_number_in pm_number_in an_number_in cd_number_in ct_number_in), sl_number_in⟩)
    (c_number_in : PySem.W.codeIn K cd_number_in "number_in" = true)
    (k_number_in : PySem.W.keepIn K (.ref f_number_in) = true)
    (a_check_end : PySem.W.nsIn K mainGlobals "check_end" = some (some (.ref f_check_end)))
    (l_check_end : K.lookup f_check_end = some ⟨oc_check_end, od_check_end, .func (PySem.W.fnOf "check_end" "check_end" (defArgs S_check_end) (defBody S_check_end) (defScope S_check_end) .none kV_check_end dc_check_end pm_check_end an_check_end cd_check_end ct_check_end), sl_check_end⟩)
    (c_check_end : PySem.W.codeIn K cd_check_end "check_end" = true)
    (k_check_end : PySem.W.keepIn K (.ref f_check_end) = true)
    (a_take_carry : PySem.W.nsIn K mainGlobals "take_carry" = some (some (.ref f_take_carry)))
    (l_take_carry : K.lookup f_take_carry = some ⟨oc_take_carry, od_take_carry, .func (PySem.W.fnOf "take_carry" "take_carry" (defArgs S_take_carry) (defBody S_take_carry) (defScope S_take_carry) .none kV_take_carry dc_take_carry pm_take_carry an_take_carry cd_take_carry ct_take_carry), sl_take_carry⟩)
    (c_take_carry : PySem.W.codeIn K cd_take_carry "take_carry" = true)
    (k_take_carry : PySem.W.keepIn K (.ref f_take_carry) = true)
    (a_take_lever : PySem.W.nsIn K mainGlobals "take_lever" = some (some (.ref f_take_lever)))
    (l_take_lever : K.lookup f_take_lever = some ⟨oc_take_lever, od_take_lever, .func (PySem.W.fnOf "take_lever" "take_lever" (defArgs S_take_lever) (defBody S_take_lever) (defScope S_take_lever) .none kV_take_lever dc_take_lever pm_take_lever an_take_lever cd_take_lever ct_take_lever), sl_take_lever⟩)
    (c_take_lever : PySem.W.codeIn K cd_take_lever "take_lever" = true)
    (k_take_lever : PySem.W.keepIn K (.ref f_take_lever) = true)
    (a_read : PySem.W.nsIn K mainGlobals "read" = some (some (.ref f_read)))
    (l_read : K.lookup f_read = some ⟨oc_read, od_read, .func (PySem.W.fnOf "read" "read" (defArgs S_read) (defBody S_read) (defScope S_read) .none kV_read dc_read pm_read an_read cd_read ct_read), sl_read⟩)
    (c_read : PySem.W.codeIn K cd_read "read" = true)
    (k_read : PySem.W.keepIn K (.ref f_read) = true)
    (a_law_mix : PySem.W.nsIn K mainGlobals "_law_mix" = some (some (.ref f_law_mix)))
    (l_law_mix : K.lookup f_law_mix = some ⟨oc_law_mix, od_law_mix, .func (PySem.W.fnOf "_law_mix" "_law_mix" (defArgs S_law_mix) (defBody S_law_mix) (defScope S_law_mix) .none kV_law_mix dc_law_mix pm_law_mix an_law_mix cd_law_mix ct_law_mix), sl_law_mix⟩)
    (c_law_mix : PySem.W.codeIn K cd_law_mix "_law_mix" = true)
    (k_law_mix : PySem.W.keepIn K (.ref f_law_mix) = true)
    (a_law_next : PySem.W.nsIn K mainGlobals "_law_next" = some (some (.ref f_law_next)))
    (l_law_next : K.lookup f_law_next = some ⟨oc_law_next, od_law_next, .func (PySem.W.fnOf "_law_next" "_law_next" (defArgs S_law_next) (defBody S_law_next) (defScope S_law_next) .none kV_law_next dc_law_next pm_law_next an_law_next cd_law_next ct_law_next), sl_law_next⟩)
    (c_law_next : PySem.W.codeIn K cd_law_next "_law_next" = true)
    (k_law_next : PySem.W.keepIn K (.ref f_law_next) = true)
    (a_law_alike : PySem.W.nsIn K mainGlobals "_law_alike" = some (some (.ref f_law_alike)))
    (l_law_alike : K.lookup f_law_alike = some ⟨oc_law_alike, od_law_alike, .func (PySem.W.fnOf "_law_alike" "_law_alike" (defArgs S_law_alike) (defBody S_law_alike) (defScope S_law_alike) .none kV_law_alike dc_law_alike pm_law_alike an_law_alike cd_law_alike ct_law_alike), sl_law_alike⟩)
    (c_law_alike : PySem.W.codeIn K cd_law_alike "_law_alike" = true)
    (k_law_alike : PySem.W.keepIn K (.ref f_law_alike) = true)
    (a_law_pick : PySem.W.nsIn K mainGlobals "_law_pick" = some (some (.ref f_law_pick)))
    (l_law_pick : K.lookup f_law_pick = some ⟨oc_law_pick, od_law_pick, .func (PySem.W.fnOf "_law_pick" "_law_pick" (defArgs S_law_pick) (defBody S_law_pick) (defScope S_law_pick) .none kV_law_pick dc_law_pick pm_law_pick an_law_pick cd_law_pick ct_law_pick), sl_law_pick⟩)
    (c_law_pick : PySem.W.codeIn K cd_law_pick "_law_pick" = true)
    (k_law_pick : PySem.W.keepIn K (.ref f_law_pick) = true)
    (a_law_parts : PySem.W.nsIn K mainGlobals "_law_parts" = some (some (.ref f_law_parts)))
    (l_law_parts : K.lookup f_law_parts = some ⟨oc_law_parts, od_law_parts, .func (PySem.W.fnOf "_law_parts" "_law_parts" (defArgs S_law_parts) (defBody S_law_parts) (defScope S_law_parts) .none kV_law_parts dc_law_parts pm_law_parts an_law_parts cd_law_parts ct_law_parts), sl_law_parts⟩)
    (c_law_parts : PySem.W.codeIn K cd_law_parts "_law_parts" = true)
    (k_law_parts : PySem.W.keepIn K (.ref f_law_parts) = true)
    (a_law : PySem.W.nsIn K mainGlobals "law" = some (some (.ref f_law)))
    (l_law : K.lookup f_law = some ⟨oc_law, od_law, .func (PySem.W.fnOf "law" "law" (defArgs S_law) (defBody S_law) (defScope S_law) .none kV_law dc_law pm_law an_law cd_law ct_law), sl_law⟩)
    (c_law : PySem.W.codeIn K cd_law "law" = true)
    (k_law : PySem.W.keepIn K (.ref f_law) = true)
    (v_CARRY : PySem.W.nsIn K mainGlobals "CARRY" = some (some (.str "carry" t_CARRY)))
    (v_LEAST_MARKS : PySem.W.nsIn K mainGlobals "LEAST_MARKS" = some (some (.int 2 t_LEAST_MARKS)))
    (v_LEVER : PySem.W.nsIn K mainGlobals "LEVER" = some (some (.str "lever" t_LEVER)))
    (v_MOST_LEVERS : PySem.W.nsIn K mainGlobals "MOST_LEVERS" = some (some (.int 4 t_MOST_LEVERS)))
    (v_MOST_MARKS : PySem.W.nsIn K mainGlobals "MOST_MARKS" = some (some (.int 60 t_MOST_MARKS)))
    (v_MOST_WHEELS : PySem.W.nsIn K mainGlobals "MOST_WHEELS" = some (some (.int 4 t_MOST_WHEELS)))
    (v_WHEEL : PySem.W.nsIn K mainGlobals "WHEEL" = some (some (.str "wheel" t_WHEEL)))
    (bk1 : K.lookup PySem.cStatics = some ⟨bk_c, bk_d, .dict bk_e bk_n, bk_s⟩)
    (bk2 : (bk_e.all fun e => match e.key with | .str _ _ => true | _ => false) = true)
    (bk3 : PySem.W.nsIn K PySem.cStatics PySem.sharingNotToldKey = some none)
    (z_int : PySem.W.nsIn K mainGlobals "int" = some none)
    (z_bool : PySem.W.nsIn K mainGlobals "bool" = some none)
    (z_tuple : PySem.W.nsIn K mainGlobals "tuple" = some none)
    (z_str : PySem.W.nsIn K mainGlobals "str" = some none)
    (z_list : PySem.W.nsIn K mainGlobals "list" = some none)
    (z_len : PySem.W.nsIn K mainGlobals "len" = some none)
    (z_range : PySem.W.nsIn K mainGlobals "range" = some none)
    (z_enumerate : PySem.W.nsIn K mainGlobals "enumerate" = some none)
    (z_zip : PySem.W.nsIn K mainGlobals "zip" = some none)
    (z_sum : PySem.W.nsIn K mainGlobals "sum" = some none)
    (z_all : PySem.W.nsIn K mainGlobals "all" = some none)
    (z_any : PySem.W.nsIn K mainGlobals "any" = some none)
    (z_isinstance : PySem.W.nsIn K mainGlobals "isinstance" = some none)
    (z_abs : PySem.W.nsIn K mainGlobals "abs" = some none)
    (z_max : PySem.W.nsIn K mainGlobals "max" = some none)
    (z_min : PySem.W.nsIn K mainGlobals "min" = some none)
    (z_sorted : PySem.W.nsIn K mainGlobals "sorted" = some none)
    (z_set : PySem.W.nsIn K mainGlobals "set" = some none) :
    ∃ fd : FuncData, (∀ (s : Shared) (v : Value), BindsTo s fd ⟨[v], []⟩ [("_law_script", v)]) ∧ ∀ base : Heap, K.In base → base.Ns mainGlobals mg → FnOk l.prog w K mg base (L2.CX l.prog w) 7 fa fd ["_law_script"] (lawSp K) := by
  have B : Blt mg := ⟨PySem.W.mg_none_of X G z_int, PySem.W.mg_none_of X G z_bool, PySem.W.mg_none_of X G z_tuple, PySem.W.mg_none_of X G z_str, PySem.W.mg_none_of X G z_list, PySem.W.mg_none_of X G z_len, PySem.W.mg_none_of X G z_range, PySem.W.mg_none_of X G z_enumerate, PySem.W.mg_none_of X G z_zip, PySem.W.mg_none_of X G z_sum, PySem.W.mg_none_of X G z_all, PySem.W.mg_none_of X G z_any, PySem.W.mg_none_of X G z_isinstance, PySem.W.mg_none_of X G z_abs, PySem.W.mg_none_of X G z_max, PySem.W.mg_none_of X G z_min, PySem.W.mg_none_of X G z_sorted, PySem.W.mg_none_of X G z_set⟩
  have GG : Glo K mg ⟨C_Board, 0, 0, 0, 0, 0, 0, 0, 0, 0, 0, 0, 0, 0, 0, 0, 0, 0, 0⟩ := ⟨⟨_, PySem.W.mg_of X G v_CARRY⟩, ⟨_, PySem.W.mg_of X G v_LEAST_MARKS⟩, ⟨_, PySem.W.mg_of X G v_LEVER⟩, ⟨_, PySem.W.mg_of X G v_MOST_LEVERS⟩, ⟨_, PySem.W.mg_of X G v_MOST_MARKS⟩, ⟨_, PySem.W.mg_of X G v_MOST_WHEELS⟩, ⟨_, PySem.W.mg_of X G v_WHEEL⟩, ⟨pg_Board, hd_Board, po_Board, sa_Board⟩, no_Board_parts, PySem.W.mg_of X G aC_Board, ⟨⟨⟨pg_Board, hd_Board, po_Board, sa_Board⟩, ia_Board, yhn, yht, im_Board⟩, il_Board, it_Board, ii_Board, iy_Board⟩, ⟨by unfold PySem.W.nsOkIn; rw [bk1]; exact bk2, bk3⟩⟩
  have T_is_integer : At K mg "is_integer" S_is_integer := ⟨_, _, fun_mk l_is_integer c_is_integer k_is_integer, PySem.W.mg_of X G a_is_integer⟩
  have T_is_marks : At K mg "is_marks" S_is_marks := ⟨_, _, fun_mk l_is_marks c_is_marks k_is_marks, PySem.W.mg_of X G a_is_marks⟩
  have T_check_frame : At K mg "check_frame" S_check_frame := ⟨_, _, fun_mk l_check_frame c_check_frame k_check_frame, PySem.W.mg_of X G a_check_frame⟩
  have T_is_lever : At K mg "is_lever" S_is_lever := ⟨_, _, fun_mk l_is_lever c_is_lever k_is_lever, PySem.W.mg_of X G a_is_lever⟩
  have T_Board_init : AtI K mg C_Board "Board" "Board.__init__" S_Board_init := ⟨_, _, fun_mk l_Board_init c_Board_init k_Board_init, ⟨mk_Board, a_Board_init, i_Board_init, kc_Board⟩, PySem.W.mg_of X G aC_Board⟩
  have T_Board_marks : AtP K C_Board "marks" "Board.marks" S_Board_marks := ⟨_, _, _, fun_mk l_Board_marks c_Board_marks k_Board_marks, ⟨a_Board_marks, g_Board_marks, t_Board_marks, _, r_Board_marks⟩⟩
  have T_Board_carries : AtP K C_Board "carries" "Board.carries" S_Board_carries := ⟨_, _, _, fun_mk l_Board_carries c_Board_carries k_Board_carries, ⟨a_Board_carries, g_Board_carries, t_Board_carries, _, r_Board_carries⟩⟩
  have T_Board_levers : AtP K C_Board "levers" "Board.levers" S_Board_levers := ⟨_, _, _, fun_mk l_Board_levers c_Board_levers k_Board_levers, ⟨a_Board_levers, g_Board_levers, t_Board_levers, _, r_Board_levers⟩⟩
  have T_Board_eq : AtM K C_Board "__eq__" "Board.__eq__" S_Board_eq := ⟨_, _, fun_mk l_Board_eq c_Board_eq k_Board_eq, a_Board_eq, i_Board_eq⟩
  have T_write : At K mg "write" S_write := ⟨_, _, fun_mk l_write c_write k_write, PySem.W.mg_of X G a_write⟩
  have T_number_in : At K mg "number_in" S_number_in := ⟨_, _, fun_mk l_number_in c_number_in k_number_in, PySem.W.mg_of X G a_number_in⟩
  have T_check_end : At K mg "check_end" S_check_end := ⟨_, _, fun_mk l_check_end c_check_end k_check_end, PySem.W.mg_of X G a_check_end⟩
  have T_take_carry : At K mg "take_carry" S_take_carry := ⟨_, _, fun_mk l_take_carry c_take_carry k_take_carry, PySem.W.mg_of X G a_take_carry⟩
  have T_take_lever : At K mg "take_lever" S_take_lever := ⟨_, _, fun_mk l_take_lever c_take_lever k_take_lever, PySem.W.mg_of X G a_take_lever⟩
  have T_read : At K mg "read" S_read := ⟨_, _, fun_mk l_read c_read k_read, PySem.W.mg_of X G a_read⟩
  have T_law_mix : At K mg "_law_mix" S_law_mix := ⟨_, _, fun_mk l_law_mix c_law_mix k_law_mix, PySem.W.mg_of X G a_law_mix⟩
  have T_law_next : At K mg "_law_next" S_law_next := ⟨_, _, fun_mk l_law_next c_law_next k_law_next, PySem.W.mg_of X G a_law_next⟩
  have T_law_alike : At K mg "_law_alike" S_law_alike := ⟨_, _, fun_mk l_law_alike c_law_alike k_law_alike, PySem.W.mg_of X G a_law_alike⟩
  have T_law_pick : At K mg "_law_pick" S_law_pick := ⟨_, _, fun_mk l_law_pick c_law_pick k_law_pick, PySem.W.mg_of X G a_law_pick⟩
  have T_law_parts : At K mg "_law_parts" S_law_parts := ⟨_, _, fun_mk l_law_parts c_law_parts k_law_parts, PySem.W.mg_of X G a_law_parts⟩
  have T_law : At K mg "law" S_law := ⟨_, _, fun_mk l_law c_law k_law, PySem.W.mg_of X G a_law⟩
  refine law_fn hfa T_law sc_law (fun _ _ _ _ _ _ us hl => match us, hl with | [_], _ => rfl) (fun base E => ?_) (law_true ⟨C_Board, 0, 0, 0, 0, 0, 0, 0, 0, 0, 0, 0, 0, 0, 0, 0, 0, 0, 0⟩)
  have e_is_integer := HW.c_is_integer (P := l.prog) (w := w) (base := base)  B GG T_is_integer
  have e_is_marks := HW.c_is_marks (P := l.prog) (w := w) (base := base) e_is_integer B GG T_is_marks
  have e_check_frame := HW.c_check_frame (P := l.prog) (w := w) (base := base) e_is_integer e_is_marks B GG T_check_frame
  have e_is_lever := HW.c_is_lever (P := l.prog) (w := w) (base := base) e_is_integer B GG T_is_lever
  have e_Board_init := HW.c_Board_init (P := l.prog) (w := w) (base := base) e_check_frame e_is_lever B GG T_Board_init
  have e_Board_marks := HW.c_Board_marks (P := l.prog) (w := w) (base := base)  B GG T_Board_marks
  have e_Board_carries := HW.c_Board_carries (P := l.prog) (w := w) (base := base)  B GG T_Board_carries
  have e_Board_levers := HW.c_Board_levers (P := l.prog) (w := w) (base := base)  B GG T_Board_levers
  have e_Board_eq := HW.c_Board_eq (P := l.prog) (w := w) (base := base)  B GG T_Board_eq
  have e_write := HW.c_write (P := l.prog) (w := w) (base := base)  B GG T_write
  have e_number_in := HW.c_number_in (P := l.prog) (w := w) (base := base)  B GG T_number_in
  have e_check_end := HW.c_check_end (P := l.prog) (w := w) (base := base)  B GG T_check_end
  have e_take_carry := HW.c_take_carry (P := l.prog) (w := w) (base := base) e_check_end e_number_in B GG T_take_carry
  have e_take_lever := HW.c_take_lever (P := l.prog) (w := w) (base := base) e_number_in B GG T_take_lever
  have e_read := HW.c_read (P := l.prog) (w := w) (base := base) e_Board_init e_check_end e_number_in e_take_carry e_take_lever B GG T_read
  have e_law_mix := HW.c_law_mix (P := l.prog) (w := w) (base := base)  B GG T_law_mix
  have e_law_next := HW.c_law_next (P := l.prog) (w := w) (base := base)  B GG T_law_next
  have e_law_alike := HW.c_law_alike (P := l.prog) (w := w) (base := base) B GG T_law_alike
  have e_law_pick := HW.c_law_pick (P := l.prog) (w := w) (base := base) e_law_next B GG T_law_pick
  have e_law_parts := HW.c_law_parts (P := l.prog) (w := w) (base := base) e_law_next e_law_pick B GG T_law_parts
  exact d_law e_Board_init e_Board_eq e_Board_carries e_Board_levers e_Board_marks e_law_alike e_law_mix e_law_next e_law_parts e_read e_write B GG E
end HW
open PySem PySem.W PyProof.Rows
set_option maxRecDepth 100000 in
set_option maxHeartbeats 0 in
theorem PySem.Challenge.cw_handwheels_k13_whole_texts_holds : PySem.Challenge.rw_handwheels_k13_whole_texts.Holds := by
  w_on; o_law; k_head; (case hw => w_witness2)
  k_fill
  refine DL.walk (l := PySem.Challenge.rw_handwheels_k13_whole_texts) (k := 7) (x := "_law_script") rfl rfl ⟨rfl, by decide, by decide⟩ (fun w h Y => PySem.W.kIn_of Y) ?F
  case F =>
    intro w mg fa h KX G hmg
    refine' HW.top KX G hmg ?aC_Board ?pg_Board ?hd_Board ?po_Board ?sa_Board ?mk_Board ?kc_Board ?no_Board_parts ?yhn ?yht ?ia_Board ?im_Board ?il_Board ?it_Board ?ii_Board ?iy_Board ?a_is_integer ?l_is_integer ?c_is_integer ?k_is_integer ?a_is_marks ?l_is_marks ?c_is_marks ?k_is_marks ?a_check_frame ?l_check_frame ?c_check_frame ?k_check_frame ?a_is_lever ?l_is_lever ?c_is_lever ?k_is_lever ?a_Board_init ?l_Board_init ?c_Board_init ?k_Board_init ?i_Board_init ?a_Board_marks ?r_Board_marks ?l_Board_marks ?c_Board_marks ?k_Board_marks ?g_Board_marks ?t_Board_marks ?a_Board_carries ?r_Board_carries ?l_Board_carries ?c_Board_carries ?k_Board_carries ?g_Board_carries ?t_Board_carries ?a_Board_levers ?r_Board_levers ?l_Board_levers ?c_Board_levers ?k_Board_levers ?g_Board_levers ?t_Board_levers ?a_Board_eq ?l_Board_eq ?c_Board_eq ?k_Board_eq ?i_Board_eq ?a_write ?l_write ?c_write ?k_write ?a_number_in ?l_number_in ?c_number_in ?k_number_in ?a_check_end ?l_check_end ?c_check_end ?k_check_end ?a_take_carry ?l_take_carry ?c_take_carry ?k_take_carry ?a_take_lever ?l_take_lever ?c_take_lever ?k_take_lever ?a_read ?l_read ?c_read ?k_read ?a_law_mix ?l_law_mix ?c_law_mix ?k_law_mix ?a_law_next ?l_law_next ?c_law_next ?k_law_next ?a_law_alike ?l_law_alike ?c_law_alike ?k_law_alike ?a_law_pick ?l_law_pick ?c_law_pick ?k_law_pick ?a_law_parts ?l_law_parts ?c_law_parts ?k_law_parts ?a_law ?l_law ?c_law ?k_law ?v_CARRY ?v_LEAST_MARKS ?v_LEVER ?v_MOST_LEVERS ?v_MOST_MARKS ?v_MOST_WHEELS ?v_WHEEL ?bk1 ?bk2 ?bk3 ?z_int ?z_bool ?z_tuple ?z_str ?z_list ?z_len ?z_range ?z_enumerate ?z_zip ?z_sum ?z_all ?z_any ?z_isinstance ?z_abs ?z_max ?z_min ?z_sorted ?z_set
    (case aC_Board => k_is)
    (case pg_Board => k_is)
    (case hd_Board => k_is)
    (case po_Board => k_is)
    (case sa_Board => k_is)
    (case mk_Board => k_is)
    (case kc_Board => k_is)
    (case no_Board_parts => k_is)
    (case yhn => k_is)
    (case yht => k_is)
    (case ia_Board => k_is)
    (case im_Board => k_is)
    (case il_Board => k_is)
    (case it_Board => k_is)
    (case ii_Board => k_is)
    (case iy_Board => k_is)
    (case a_is_integer => k_is)
    (case l_is_integer => k_is)
    (case c_is_integer => k_is)
    (case k_is_integer => k_is)
    (case a_is_marks => k_is)
    (case l_is_marks => k_is)
    (case c_is_marks => k_is)
    (case k_is_marks => k_is)
    (case a_check_frame => k_is)
    (case l_check_frame => k_is)
    (case c_check_frame => k_is)
    (case k_check_frame => k_is)
    (case a_is_lever => k_is)
    (case l_is_lever => k_is)
    (case c_is_lever => k_is)
    (case k_is_lever => k_is)
    (case a_Board_init => k_is)
    (case l_Board_init => k_is)
    (case c_Board_init => k_is)
    (case k_Board_init => k_is)
    (case i_Board_init => k_is)
    (case a_Board_marks => k_is)
    (case r_Board_marks => k_is)
    (case l_Board_marks => k_is)
    (case c_Board_marks => k_is)
    (case k_Board_marks => k_is)
    (case g_Board_marks => k_is)
    (case t_Board_marks => k_is)
    (case a_Board_carries => k_is)
    (case r_Board_carries => k_is)
    (case l_Board_carries => k_is)
    (case c_Board_carries => k_is)
    (case k_Board_carries => k_is)
    (case g_Board_carries => k_is)
    (case t_Board_carries => k_is)
    (case a_Board_levers => k_is)
    (case r_Board_levers => k_is)
    (case l_Board_levers => k_is)
    (case c_Board_levers => k_is)
    (case k_Board_levers => k_is)
    (case g_Board_levers => k_is)
    (case t_Board_levers => k_is)
    (case a_Board_eq => k_is)
    (case l_Board_eq => k_is)
    (case c_Board_eq => k_is)
    (case k_Board_eq => k_is)
    (case i_Board_eq => k_is)
    (case a_write => k_is)
    (case l_write => k_is)
    (case c_write => k_is)
    (case k_write => k_is)
    (case a_number_in => k_is)
    (case l_number_in => k_is)
    (case c_number_in => k_is)
    (case k_number_in => k_is)
    (case a_check_end => k_is)
    (case l_check_end => k_is)
    (case c_check_end => k_is)
    (case k_check_end => k_is)
    (case a_take_carry => k_is)
    (case l_take_carry => k_is)
    (case c_take_carry => k_is)
    (case k_take_carry => k_is)
    (case a_take_lever => k_is)
    (case l_take_lever => k_is)
    (case c_take_lever => k_is)
    (case k_take_lever => k_is)
    (case a_read => k_is)
    (case l_read => k_is)
    (case c_read => k_is)
    (case k_read => k_is)
    (case a_law_mix => k_is)
    (case l_law_mix => k_is)
    (case c_law_mix => k_is)
    (case k_law_mix => k_is)
    (case a_law_next => k_is)
    (case l_law_next => k_is)
    (case c_law_next => k_is)
    (case k_law_next => k_is)
    (case a_law_alike => k_is)
    (case l_law_alike => k_is)
    (case c_law_alike => k_is)
    (case k_law_alike => k_is)
    (case a_law_pick => k_is)
    (case l_law_pick => k_is)
    (case c_law_pick => k_is)
    (case k_law_pick => k_is)
    (case a_law_parts => k_is)
    (case l_law_parts => k_is)
    (case c_law_parts => k_is)
    (case k_law_parts => k_is)
    (case a_law => k_is)
    (case l_law => k_is)
    (case c_law => k_is)
    (case k_law => k_is)
    (case v_CARRY => k_is)
    (case v_LEAST_MARKS => k_is)
    (case v_LEVER => k_is)
    (case v_MOST_LEVERS => k_is)
    (case v_MOST_MARKS => k_is)
    (case v_MOST_WHEELS => k_is)
    (case v_WHEEL => k_is)
    (case bk1 => k_is)
    (case bk2 => first | rfl | decide +kernel | (with_unfolding_all rfl))
    (case bk3 => k_is)
    (case z_int => k_is)
    (case z_bool => k_is)
    (case z_tuple => k_is)
    (case z_str => k_is)
    (case z_list => k_is)
    (case z_len => k_is)
    (case z_range => k_is)
    (case z_enumerate => k_is)
    (case z_zip => k_is)
    (case z_sum => k_is)
    (case z_all => k_is)
    (case z_any => k_is)
    (case z_isinstance => k_is)
    (case z_abs => k_is)
    (case z_max => k_is)
    (case z_min => k_is)
    (case z_sorted => k_is)
    (case z_set => k_is)
