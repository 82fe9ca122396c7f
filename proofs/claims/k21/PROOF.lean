import PyProof.Rows.All
import Wide.All
import OpenK.AllK
import Wide.FinOn
import HandS.ForMost
import HandS.Exc
import HandS.ExcOwn
import HandS.WordsExc
import HandS.ExcInit
import HandS.Iter
import HandS.Zip
import HandS.SortOrd
import HandS.SortInts
import HandS.TupSets
import HandS.Conv
import HandS.TupAny
import HandS.TupLe
import HandS.TupLen
import HandS.IsInst
import HandS.Deep
import HandS.Style
import HandS.WideBits
import HandS.Small
import KE.KDictPairs
import KE.KDictCopyH
import PySem.Challenge.RW_layfaces_k21_laid_lots_and_stuck_ones
set_option Elab.async false
set_option linter.all false
set_option maxRecDepth 100000
/-! Lf, part A: plain data D, how the abstract heap holds it (Rp), environments with owned slots (RE), what an evaluation keeps (Fr). -/
namespace Lf
open PySem PySem.Spec L2

inductive D where
  | non | bl (b : Bool) | int (i : Int) | str (x : Str)
  | tup (xs : List D) | lst (xs : List D)
  | dk (kvs : List (Int × V)) | dt (kvs : List (List Int × V))
instance : Inhabited D := ⟨.non⟩

def kI (p : Int × V) : Key × V := (.inl p.1, p.2)
def kT (p : List Int × V) : List Key × V := (p.1.map Sum.inl, p.2)
/-- no code object's table -/
def NT (o : HO) : Prop := ∀ ps, o ≠ .tbl ps
/-- a list of the written part -/
def KL (K : PySem.W.Frag) (a : Addr) (xs : List V) : Prop :=
  ∃ (o : Obj) (its : Array Value) (n : Nat), K.lookup a = some o ∧ o.cls = .type "list" ∧ o.dict = none ∧ o.data = .seq its n ∧ its.size ≤ sizeLine ∧ Vals xs its.toList

mutual
/-- v holds the datum d in H; no list or dict in it stands in O -/
inductive Rp (K : PySem.W.Frag) (H : Hp) (O : Addr → Prop) : V → D → Prop
  | non : Rp K H O .non .non
  | bl (b : Bool) : Rp K H O (.bl b) (.bl b)
  | int (i : Int) : Rp K H O (.int i) (.int i)
  | str (x : Str) : Rp K H O (.str x) (.str x)
  | tup {a : Addr} {xs : List V} {ds : List D} : H a = some (.tup xs) → RpAll K H O xs ds → Rp K H O (.ref a) (.tup ds)
  | lst {a : Addr} {xs : List V} {ds : List D} : Rd H a (.lst xs) → ¬ O a → RpAll K H O xs ds → Rp K H O (.ref a) (.lst ds)
  | lstK {a : Addr} {xs : List V} {ds : List D} : KL K a xs → RpAll K H O xs ds → Rp K H O (.ref a) (.lst ds)
  | dk {a : Addr} {kvs : List (Int × V)} : Rd H a (.dK (kvs.map kI)) → ¬ O a → Rp K H O (.ref a) (.dk kvs)
  | dt {a : Addr} {kvs : List (List Int × V)} : Rd H a (.dT (kvs.map kT)) → ¬ O a → Rp K H O (.ref a) (.dt kvs)
inductive RpAll (K : PySem.W.Frag) (H : Hp) (O : Addr → Prop) : List V → List D → Prop
  | nil : RpAll K H O [] []
  | cons {v : V} {vs : List V} {d : D} {ds : List D} : Rp K H O v d → RpAll K H O vs ds → RpAll K H O (v :: vs) (d :: ds)
end

/-- what avoids O (and every tuple) is kept; O grows by new addresses alone -/
structure Ke (H H' : Hp) (O O' : Addr → Prop) : Prop where
  kp : ∀ b o, H b = some o → NT o → (¬ O b ∨ ∃ xs, o = .tup xs) → H' b = some o
  sk : ∀ b, O' b → O b ∨ H b = none

theorem nt_tup {xs : List V} : NT (.tup xs) := fun _ h => nomatch h
theorem nt_lst {xs : List V} : NT (.lst xs) := fun _ h => nomatch h
theorem nt_dK {xs} : NT (.dK xs) := fun _ h => nomatch h
theorem nt_dT {xs} : NT (.dT xs) := fun _ h => nomatch h
theorem nt_frz {o u} : NT (.frz o u) := fun _ h => nomatch h

theorem Rd.ex {H : Hp} {a : Addr} {u : HO} (h : Rd H a u) : ∃ o, H a = some o := by
  rcases h with h | ⟨o, h⟩ <;> exact ⟨_, h⟩
theorem Rd.ke {H H' : Hp} {O O' : Addr → Prop} (k : Ke H H' O O') {a : Addr} {u : HO} (n : NT u) (h : Rd H a u) (ho : ¬ O a) : Rd H' a u ∧ ¬ O' a := by
  have hn : ¬ O' a := fun z => by
    rcases k.sk a z with z | z
    · exact ho z
    · obtain ⟨o, e⟩ := Rd.ex h
      rw [z] at e; cases e
  rcases h with h | ⟨o, h⟩
  · exact ⟨.inl (k.kp a _ h n (.inl ho)), hn⟩
  · exact ⟨.inr ⟨o, k.kp a _ h nt_frz (.inl ho)⟩, hn⟩

/-- .. what is readable stays readable -/
structure KeR (H H' : Hp) (O O' : Addr → Prop) : Prop where
  rk : ∀ b u, ((∃ xs, u = .lst xs) ∨ (∃ xs, u = .dK xs) ∨ ∃ xs, u = .dT xs) → Rd H b u → ¬ O b → Rd H' b u ∧ ¬ O' b
  tk : ∀ b xs, H b = some (.tup xs) → H' b = some (.tup xs)
theorem Ke.r {H H' : Hp} {O O' : Addr → Prop} (k : Ke H H' O O') : KeR H H' O O' := ⟨fun b u n h o => by
  rcases n with ⟨xs, rfl⟩ | ⟨xs, rfl⟩ | ⟨xs, rfl⟩
  · exact Rd.ke k nt_lst h o
  · exact Rd.ke k nt_dK h o
  · exact Rd.ke k nt_dT h o, fun b xs h => k.kp _ _ h nt_tup (.inr ⟨_, rfl⟩)⟩
section
variable {K : PySem.W.Frag} {H H' : Hp} {O O' : Addr → Prop}
mutual
theorem Rp.keR (k : KeR H H' O O') : ∀ {d : D} {v : V}, Rp K H O v d → Rp K H' O' v d
  | .non, _, h => by cases h; exact .non
  | .bl b, _, h => by cases h; exact .bl b
  | .int i, _, h => by cases h; exact .int i
  | .str x, _, h => by cases h; exact .str x
  | .tup ds, _, h => by
    cases h with
    | tup h1 h2 => exact .tup (k.tk _ _ h1) (RpAll.keR k h2)
  | .lst ds, _, h => by
    cases h with
    | lst h1 ho h2 =>
      obtain ⟨z1, z2⟩ := k.rk _ _ (.inl ⟨_, rfl⟩) h1 ho
      exact .lst z1 z2 (RpAll.keR k h2)
    | lstK h1 h2 => exact .lstK h1 (RpAll.keR k h2)
  | .dk kvs, _, h => by
    cases h with
    | dk h1 ho =>
      obtain ⟨z1, z2⟩ := k.rk _ _ (.inr (.inl ⟨_, rfl⟩)) h1 ho
      exact .dk z1 z2
  | .dt kvs, _, h => by
    cases h with
    | dt h1 ho =>
      obtain ⟨z1, z2⟩ := k.rk _ _ (.inr (.inr ⟨_, rfl⟩)) h1 ho
      exact .dt z1 z2
theorem RpAll.keR (k : KeR H H' O O') : ∀ {ds : List D} {vs : List V}, RpAll K H O vs ds → RpAll K H' O' vs ds
  | [], _, h => by cases h; exact .nil
  | d :: ds, _, h => by
    cases h with
    | cons h1 h2 => exact .cons (Rp.keR k h1) (RpAll.keR k h2)
end
mutual
theorem Rp.ke (k : Ke H H' O O') : ∀ {d : D} {v : V}, Rp K H O v d → Rp K H' O' v d
  | .non, _, h => by cases h; exact .non
  | .bl b, _, h => by cases h; exact .bl b
  | .int i, _, h => by cases h; exact .int i
  | .str x, _, h => by cases h; exact .str x
  | .tup ds, _, h => by
    cases h with
    | tup h1 h2 => exact .tup (k.kp _ _ h1 nt_tup (.inr ⟨_, rfl⟩)) (RpAll.ke k h2)
  | .lst ds, _, h => by
    cases h with
    | lst h1 ho h2 => exact .lst (Rd.ke k nt_lst h1 ho).1 (Rd.ke k nt_lst h1 ho).2 (RpAll.ke k h2)
    | lstK h1 h2 => exact .lstK h1 (RpAll.ke k h2)
  | .dk kvs, _, h => by
    cases h with
    | dk h1 ho => exact .dk (Rd.ke k nt_dK h1 ho).1 (Rd.ke k nt_dK h1 ho).2
  | .dt kvs, _, h => by
    cases h with
    | dt h1 ho => exact .dt (Rd.ke k nt_dT h1 ho).1 (Rd.ke k nt_dT h1 ho).2
theorem RpAll.ke (k : Ke H H' O O') : ∀ {ds : List D} {vs : List V}, RpAll K H O vs ds → RpAll K H' O' vs ds
  | [], _, h => by cases h; exact .nil
  | d :: ds, _, h => by
    cases h with
    | cons h1 h2 => exact .cons (Rp.ke k h1) (RpAll.ke k h2)
end

mutual
/-- nothing that can be changed is in it -/
def imm : D → Bool
  | .non => true
  | .bl _ => true
  | .int _ => true
  | .str _ => true
  | .tup xs => immAll xs
  | .lst _ => false
  | .dk _ => false
  | .dt _ => false
def immAll : List D → Bool
  | [] => true
  | d :: ds => imm d && immAll ds
end
mutual
theorem Rp.imm : ∀ {d : D} {v : V}, Lf.imm d = true → Rp K H O v d → Rp K H O' v d
  | .non, _, _, h => by cases h; exact .non
  | .bl b, _, _, h => by cases h; exact .bl b
  | .int i, _, _, h => by cases h; exact .int i
  | .str x, _, _, h => by cases h; exact .str x
  | .tup ds, _, e, h => by
    cases h with
    | tup h1 h2 => exact .tup h1 (RpAll.imm (by simpa [Lf.imm] using e) h2)
  | .lst ds, _, e, _ => by simp [Lf.imm] at e
  | .dk _, _, e, _ => by simp [Lf.imm] at e
  | .dt _, _, e, _ => by simp [Lf.imm] at e
theorem RpAll.imm : ∀ {ds : List D} {vs : List V}, immAll ds = true → RpAll K H O vs ds → RpAll K H O' vs ds
  | [], _, _, h => by cases h; exact .nil
  | d :: ds, _, e, h => by
    cases h with
    | cons h1 h2 =>
      simp only [immAll, Bool.and_eq_true] at e
      exact .cons (Rp.imm e.1 h1) (RpAll.imm e.2 h2)
end
theorem RpAll.length : ∀ {vs : List V} {ds : List D}, RpAll K H O vs ds → vs.length = ds.length
  | [], [], _ => rfl
  | [], _ :: _, h => nomatch h
  | _ :: _, [], h => nomatch h
  | _ :: vs, _ :: ds, h => by
    cases h with
    | cons _ h2 => rw [List.length_cons, List.length_cons, RpAll.length h2]
theorem RpAll.append : ∀ {vs ws : List V} {ds es : List D}, RpAll K H O vs ds → RpAll K H O ws es → RpAll K H O (vs ++ ws) (ds ++ es)
  | [], _, [], _, _, h => h
  | [], _, _ :: _, _, h, _ => nomatch h
  | _ :: _, _, [], _, h, _ => nomatch h
  | _ :: _, _, _ :: _, _, h, h' => by
    cases h with
    | cons h1 h2 => exact .cons h1 (RpAll.append h2 h')
theorem RpAll.get : ∀ {vs : List V} {ds : List D} {i : Nat} {d : D}, RpAll K H O vs ds → ds[i]? = some d → ∃ v, vs[i]? = some v ∧ Rp K H O v d
  | [], [], _, _, _, e => by simp at e
  | [], _ :: _, _, _, h, _ => nomatch h
  | _ :: _, [], _, _, h, _ => nomatch h
  | v :: vs, d :: ds, 0, _, h, e => by
    cases h with
    | cons h1 h2 => simp at e; subst e; exact ⟨v, rfl, h1⟩
  | v :: vs, d :: ds, i + 1, _, h, e => by
    cases h with
    | cons h1 h2 =>
      obtain ⟨u, e1, r⟩ := RpAll.get (i := i) h2 (by simpa using e)
      exact ⟨u, by simpa using e1, r⟩
theorem RpAll.getV : ∀ {vs : List V} {ds : List D} {i : Nat} {v : V}, RpAll K H O vs ds → vs[i]? = some v → ∃ d, ds[i]? = some d ∧ Rp K H O v d
  | [], [], _, _, _, e => by simp at e
  | [], _ :: _, _, _, h, _ => nomatch h
  | _ :: _, [], _, _, h, _ => nomatch h
  | v :: vs, d :: ds, 0, _, h, e => by
    cases h with
    | cons h1 h2 => simp at e; subst e; exact ⟨d, rfl, h1⟩
  | v :: vs, d :: ds, i + 1, _, h, e => by
    cases h with
    | cons h1 h2 =>
      obtain ⟨u, e1, r⟩ := RpAll.getV (i := i) h2 (by simpa using e)
      exact ⟨u, by simpa using e1, r⟩
theorem RpAll.take : ∀ {vs : List V} {ds : List D} (n : Nat), RpAll K H O vs ds → RpAll K H O (vs.take n) (ds.take n)
  | _, _, 0, _ => by rw [List.take_zero, List.take_zero]; exact .nil
  | [], [], n + 1, _ => .nil
  | [], _ :: _, _ + 1, h => nomatch h
  | _ :: _, [], _ + 1, h => nomatch h
  | v :: vs, d :: ds, n + 1, h => by
    cases h with
    | cons h1 h2 => exact .cons h1 (RpAll.take n h2)
theorem RpAll.drop : ∀ {vs : List V} {ds : List D} (n : Nat), RpAll K H O vs ds → RpAll K H O (vs.drop n) (ds.drop n)
  | _, _, 0, h => h
  | [], [], n + 1, _ => .nil
  | [], _ :: _, _ + 1, h => nomatch h
  | _ :: _, [], _ + 1, h => nomatch h
  | v :: vs, d :: ds, n + 1, h => by
    cases h with
    | cons h1 h2 => exact RpAll.drop n h2
theorem RpAll.reverse : ∀ {vs : List V} {ds : List D}, RpAll K H O vs ds → RpAll K H O vs.reverse ds.reverse
  | [], [], _ => .nil
  | [], _ :: _, h => nomatch h
  | _ :: _, [], h => nomatch h
  | v :: vs, d :: ds, h => by
    cases h with
    | cons h1 h2 =>
      rw [List.reverse_cons, List.reverse_cons]
      exact (RpAll.reverse h2).append (.cons h1 .nil)
theorem RpAll.set : ∀ {vs : List V} {ds : List D} {v : V} {d : D} (i : Nat), RpAll K H O vs ds → Rp K H O v d → RpAll K H O (vs.set i v) (ds.set i d)
  | [], [], _, _, _, _, _ => .nil
  | [], _ :: _, _, _, _, h, _ => nomatch h
  | _ :: _, [], _, _, _, h, _ => nomatch h
  | v :: vs, d :: ds, _, _, 0, h, q => by
    cases h with
    | cons h1 h2 => exact .cons q h2
  | v :: vs, d :: ds, _, _, i + 1, h, q => by
    cases h with
    | cons h1 h2 => exact .cons h1 (RpAll.set i h2 q)
theorem RpAll.eraseIdx : ∀ {vs : List V} {ds : List D} (i : Nat), RpAll K H O vs ds → RpAll K H O (vs.eraseIdx i) (ds.eraseIdx i)
  | [], [], _, _ => .nil
  | [], _ :: _, _, h => nomatch h
  | _ :: _, [], _, h => nomatch h
  | v :: vs, d :: ds, 0, h => by
    cases h with
    | cons h1 h2 => exact h2
  | v :: vs, d :: ds, i + 1, h => by
    cases h with
    | cons h1 h2 => exact .cons h1 (RpAll.eraseIdx i h2)
theorem RpAll.ints : ∀ {vs : List V} {ns : List Int}, RpAll K H O vs (ns.map D.int) ↔ vs = ns.map V.int
  | [], [] => ⟨(fun _ => rfl), (fun _ => RpAll.nil)⟩
  | [], _ :: _ => ⟨(fun h => nomatch h), (fun h => nomatch h)⟩
  | _ :: _, [] => ⟨(fun h => nomatch h), (fun h => nomatch h)⟩
  | v :: vs, n :: ns => by
    constructor
    · intro h
      cases h with
      | cons h1 h2 =>
        cases h1
        rw [RpAll.ints.mp h2]
        rfl
    · intro h
      cases h
      exact .cons (.int n) (RpAll.ints.mpr rfl)
end

/-! ### environments -/
inductive Slot where
  | no | sh (d : D) | ow (d : D) | lk (d : D)
inductive Val where
  | sh (d : D) | ow (d : D) | bw (i : Nat)
abbrev Env := List Slot
structure Exc where
  cls : Str
  args : List Int
/-- what an evaluation gives -/
inductive R (α : Type) where
  | ok (a : α) (ρ : Env)
  | er (c : Exc)
abbrev Ev (α : Type) := Env → Option (R α)
/-- the object at a, owned -/
def Ob (K : PySem.W.Frag) (H : Hp) (O : Addr → Prop) (a : Addr) : D → Prop
  | .lst ds => ∃ xs, H a = some (.lst xs) ∧ RpAll K H O xs ds
  | .dk kvs => H a = some (.dK (kvs.map kI))
  | .dt kvs => H a = some (.dT (kvs.map kT))
  | _ => False
/-- .. read alone -/
def ObR (K : PySem.W.Frag) (H : Hp) (O : Addr → Prop) (a : Addr) : D → Prop
  | .lst ds => ∃ xs, Rd H a (.lst xs) ∧ RpAll K H O xs ds
  | .dk kvs => Rd H a (.dK (kvs.map kI))
  | .dt kvs => Rd H a (.dT (kvs.map kT))
  | _ => False
theorem Ob.r {K : PySem.W.Frag} {H : Hp} {O : Addr → Prop} {a : Addr} : ∀ {d : D}, Ob K H O a d → ObR K H O a d
  | .lst _, ⟨xs, h, r⟩ => ⟨xs, .inl h, r⟩
  | .dk _, h => Or.inl (show H a = some _ from h)
  | .dt _, h => Or.inl (show H a = some _ from h)
  | .non, h => h
  | .bl _, h => h
  | .int _, h => h
  | .str _, h => h
  | .tup _, h => h
theorem ObR.ex {K : PySem.W.Frag} {H : Hp} {O : Addr → Prop} {a : Addr} : ∀ {d : D}, ObR K H O a d → ∃ o, H a = some o
  | .lst _, ⟨_, h, _⟩ => Rd.ex h
  | .dk _, h => Rd.ex (u := .dK _) h
  | .dt _, h => Rd.ex (u := .dT _) h
  | .non, h => h.elim
  | .bl _, h => h.elim
  | .int _, h => h.elim
  | .str _, h => h.elim
  | .tup _, h => h.elim
theorem Ob.ex {K : PySem.W.Frag} {H : Hp} {O : Addr → Prop} {a : Addr} {d : D} (h : Ob K H O a d) : ∃ o, H a = some o := ObR.ex h.r
theorem ObR.notup {K : PySem.W.Frag} {H : Hp} {O : Addr → Prop} {a : Addr} {ys : List V} : ∀ {d : D}, ObR K H O a d → H a ≠ some (.tup ys)
  | .lst _, ⟨_, h, _⟩, e => by rcases h with h | ⟨_, h⟩ <;> (rw [h] at e; cases e)
  | .dk _, h, e => by rcases (show Rd H a _ from h) with h | ⟨_, h⟩ <;> (rw [h] at e; cases e)
  | .dt _, h, e => by rcases (show Rd H a _ from h) with h | ⟨_, h⟩ <;> (rw [h] at e; cases e)
  | .non, h, _ => h.elim
  | .bl _, h, _ => h.elim
  | .int _, h, _ => h.elim
  | .str _, h, _ => h.elim
  | .tup _, h, _ => h.elim
/-- the object stays and what avoids O is kept -/
theorem Ob.ke {K : PySem.W.Frag} {H H' : Hp} {O O' : Addr → Prop} {a : Addr} (k : Ke H H' O O') (ha : ∀ o, H a = some o → NT o → H' a = some o) : ∀ {d : D}, Ob K H O a d → Ob K H' O' a d
  | .lst _, ⟨xs, h, r⟩ => ⟨xs, ha _ h nt_lst, r.ke k⟩
  | .dk _, h => ha _ (show H a = some _ from h) nt_dK
  | .dt _, h => ha _ (show H a = some _ from h) nt_dT
  | .non, h => h
  | .bl _, h => h
  | .int _, h => h
  | .str _, h => h
  | .tup _, h => h
theorem Rd.stay {H H' : Hp} {a : Addr} {u : HO} (n : NT u) (ha : ∀ o, H a = some o → NT o → H' a = some o) (h : Rd H a u) : Rd H' a u := by
  rcases h with h | ⟨o, h⟩
  · exact .inl (ha _ h n)
  · exact .inr ⟨o, ha _ h nt_frz⟩
theorem ObR.ke {K : PySem.W.Frag} {H H' : Hp} {O O' : Addr → Prop} {a : Addr} (k : Ke H H' O O') (ha : ∀ o, H a = some o → NT o → H' a = some o) : ∀ {d : D}, ObR K H O a d → ObR K H' O' a d
  | .lst _, ⟨xs, h, r⟩ => ⟨xs, Rd.stay nt_lst ha h, r.ke k⟩
  | .dk _, h => Rd.stay nt_dK ha (show Rd H a _ from h)
  | .dt _, h => Rd.stay nt_dT ha (show Rd H a _ from h)
  | .non, h => h
  | .bl _, h => h
  | .int _, h => h
  | .str _, h => h
  | .tup _, h => h

def Ow (ρ : Env) (σ : St) (b : Addr) : Prop := ∃ (i : Nat) (d : D), ρ[i]? = some (Slot.ow d) ∧ σ[i]? = some (some (V.ref b))
def Lk (ρ : Env) (σ : St) (b : Addr) : Prop := ∃ (i : Nat) (d : D), ρ[i]? = some (Slot.lk d) ∧ σ[i]? = some (some (V.ref b))
/-- slot i is locked, at b -/
def LkAt (ρ : Env) (σ : St) (i : Nat) (b : Addr) : Prop := (∃ d, ρ[i]? = some (Slot.lk d)) ∧ σ[i]? = some (some (V.ref b))
/-- slot i holds an owned object at a -/
def OL (ρ : Env) (σ : St) (i : Nat) (a : Addr) : Prop := (∃ d, ρ[i]? = some (Slot.ow d) ∨ ρ[i]? = some (Slot.lk d)) ∧ σ[i]? = some (some (V.ref a))
structure RE (K : PySem.W.Frag) (ρ : Env) (σ : St) (H : Hp) (O : Addr → Prop) : Prop where
  len : ρ.length = σ.length
  sh : ∀ (i : Nat) (d : D), ρ[i]? = some (Slot.sh d) → ∃ v, σ[i]? = some (some v) ∧ Rp K H O v d
  ow : ∀ (i : Nat) (d : D), ρ[i]? = some (Slot.ow d) → ∃ a, σ[i]? = some (some (V.ref a)) ∧ O a ∧ Ob K H O a d
  lk : ∀ (i : Nat) (d : D), ρ[i]? = some (Slot.lk d) → ∃ a, σ[i]? = some (some (V.ref a)) ∧ O a ∧ ObR K H O a d
  inj : ∀ (i j : Nat) (a : Addr), OL ρ σ i a → OL ρ σ j a → i = j
structure Fr (ρ : Env) (σ : St) (H : Hp) (O : Addr → Prop) (ρ' : Env) (σ' : St) (H' : Hp) (O' : Addr → Prop) : Prop where
  kp : ∀ b o, H b = some o → NT o → ¬ Ow ρ σ b → H' b = some o
  al : ∀ b o, H b = some o → ∃ o', H' b = some o'
  sk : ∀ b, O' b → O b ∨ H b = none
  st : ∀ b o, H b = some o → O b → ¬ Ow ρ σ b → O' b
  ow : ∀ b, Ow ρ' σ' b → Ow ρ σ b ∨ H b = none
  lk : ∀ i b, LkAt ρ' σ' i b → LkAt ρ σ i b
  z0 : ∀ b, OL ρ' σ' 0 b → OL ρ σ 0 b
theorem Fr.refl {ρ : Env} {σ : St} {H : Hp} {O : Addr → Prop} : Fr ρ σ H O ρ σ H O :=
  ⟨fun _ _ h _ _ => h, fun _ o h => ⟨o, h⟩, fun _ h => .inl h, fun _ _ _ h _ => h, fun _ h => .inl h, fun _ _ h => h, fun _ h => h⟩
theorem Fr.lk' {ρ ρ' : Env} {σ σ' : St} {H H' : Hp} {O O' : Addr → Prop} (F : Fr ρ σ H O ρ' σ' H' O') : ∀ b, Lk ρ' σ' b → Lk ρ σ b := fun b ⟨i, d, h, e⟩ => by
  obtain ⟨⟨d', h'⟩, e'⟩ := F.lk i b ⟨⟨d, h⟩, e⟩
  exact ⟨i, d', h', e'⟩
theorem Fr.trans {ρ ρ1 ρ2 : Env} {σ σ1 σ2 : St} {H H1 H2 : Hp} {O O1 O2 : Addr → Prop} (a : Fr ρ σ H O ρ1 σ1 H1 O1) (b : Fr ρ1 σ1 H1 O1 ρ2 σ2 H2 O2) : Fr ρ σ H O ρ2 σ2 H2 O2 := by
  have no : ∀ c o, H c = some o → ¬ Ow ρ σ c → ¬ Ow ρ1 σ1 c := fun c o h n z => by
    rcases a.ow c z with z | z
    · exact n z
    · rw [h] at z; cases z
  have fr : ∀ c, H1 c = none → H c = none := fun c h => by
    cases q : H c with
    | none => rfl
    | some o =>
      obtain ⟨o', e⟩ := a.al c o q
      rw [h] at e; cases e
  refine ⟨fun c o h t n => b.kp c o (a.kp c o h t n) t (no c o h n), fun c o h => ?_, fun c h => ?_, fun c o h q n => ?_, fun c h => ?_, fun i c h => a.lk i c (b.lk i c h), fun c h => a.z0 c (b.z0 c h)⟩
  · obtain ⟨o', e⟩ := a.al c o h
    exact b.al c o' e
  · rcases b.sk c h with h | h
    · exact a.sk c h
    · exact .inr (fr c h)
  · obtain ⟨o', e⟩ := a.al c o h
    exact b.st c o' e (a.st c o h q n) (no c o h n)
  · rcases b.ow c h with h | h
    · exact a.ow c h
    · exact .inr (fr c h)
end Lf

set_option Elab.async false
set_option linter.all false
set_option maxRecDepth 100000
/-! Lf, part B: the judgement VE (an expression computes what f says), moves of owned values, the ways to compose. -/
namespace Lf
open PySem PySem.Spec L2

/-- v is what r says -/
def VR (K : PySem.W.Frag) (ρ : Env) (σ : St) (H : Hp) (O : Addr → Prop) : Val → V → Prop
  | .sh d, v => Rp K H O v d
  | .ow d, v => ∃ a, v = .ref a ∧ O a ∧ ¬ Ow ρ σ a ∧ ¬ Lk ρ σ a ∧ Ob K H O a d
  | .bw i, v => σ[i]? = some (some v)
def rd (ρ : Env) : Val → Option D
  | .sh d => some d
  | .ow d => some d
  | .bw i => match ρ[i]? with
    | some (Slot.ow d) => some d
    | some (Slot.lk d) => some d
    | _ => none
/-- readable as d -/
def Rd1 (K : PySem.W.Frag) (H : Hp) (O : Addr → Prop) (v : V) (d : D) : Prop := Rp K H O v d ∨ ∃ a, v = .ref a ∧ O a ∧ ObR K H O a d
/-- an exception as it lies -/
def XR (mg : Str → Option Value) (c : Exc) (cls : Value) (d : Option Addr) (H : Hp) : Prop :=
  (∃ C, cls = .ref C ∧ mg c.cls = some (.ref C)) ∧ match c.args with
    | [] => d = none
    | [m, n] => ∃ dx, d = some dx ∧ H dx = some (exd dx [("most", .int n), ("many", .int m)])
    | _ => False
def FrX (ρ : Env) (σ : St) (H H' : Hp) : Prop := ∀ b o, H b = some o → NT o → ¬ Ow ρ σ b → H' b = some o
structure EPost (K : PySem.W.Frag) (ρ : Env) (σ : St) (H : Hp) (O : Addr → Prop) (r : Val) (ρ' : Env) (v : V) (H' : Hp) (O' : Addr → Prop) : Prop where
  re : RE K ρ' σ H' O'
  fr : Fr ρ σ H O ρ' σ H' O'
  vr : VR K ρ' σ H' O' r v
  og : ∀ d a, r = .ow d → v = .ref a → H a = none ∨ Ow ρ σ a

section
variable {K : PySem.W.Frag} {ρ ρ1 ρ' : Env} {σ σ' : St} {H H1 H' : Hp} {O O1 O' : Addr → Prop}
theorem RE.ol (E : RE K ρ σ H O) {i : Nat} {a : Addr} (h : OL ρ σ i a) : O a ∧ (∃ o, H a = some o) ∧ ∀ xs, H a ≠ some (.tup xs) := by
  obtain ⟨⟨d, h | h⟩, e⟩ := h
  · obtain ⟨b, e1, o, q⟩ := E.ow i d h
    rw [e] at e1; cases e1
    exact ⟨o, q.ex, fun xs => q.r.notup⟩
  · obtain ⟨b, e1, o, q⟩ := E.lk i d h
    rw [e] at e1; cases e1
    exact ⟨o, q.ex, fun xs => q.notup⟩
theorem Ow.ol {b : Addr} (h : Ow ρ σ b) : ∃ i, OL ρ σ i b := by
  obtain ⟨i, d, h1, h2⟩ := h
  exact ⟨i, ⟨d, .inl h1⟩, h2⟩
theorem Lk.ol {b : Addr} (h : Lk ρ σ b) : ∃ i, OL ρ σ i b := by
  obtain ⟨i, d, h1, h2⟩ := h
  exact ⟨i, ⟨d, .inr h1⟩, h2⟩
theorem RE.owO (E : RE K ρ σ H O) {b : Addr} (h : Ow ρ σ b) : O b := let ⟨_, q⟩ := h.ol; (E.ol q).1
theorem Fr.ke (E : RE K ρ σ H O) (F : Fr ρ σ H O ρ' σ' H' O') : Ke H H' O O' := by
  refine ⟨fun b o h t n => F.kp b o h t fun z => ?_, F.sk⟩
  obtain ⟨i, q⟩ := z.ol
  obtain ⟨q1, _, q2⟩ := E.ol q
  rcases n with n | ⟨xs, n⟩
  · exact n q1
  · rw [n] at h; exact q2 xs h
theorem VR.later (E : RE K ρ σ H O) (F : Fr ρ σ H O ρ' σ H' O') : ∀ {r : Val} {v : V}, VR K ρ σ H O r v → VR K ρ' σ H' O' r v
  | .sh d, v, h => Rp.ke (F.ke E) h
  | .ow d, v, ⟨a, e, o, nw, nl, q⟩ => by
    obtain ⟨u, hu⟩ := q.ex
    refine ⟨a, e, F.st a u hu o nw, fun z => ?_, fun z => nl (F.lk' a z), q.ke (F.ke E) fun o' e' t => F.kp a o' e' t nw⟩
    rcases F.ow a z with z | z
    · exact nw z
    · rw [hu] at z; cases z
  | .bw i, v, h => h
theorem VR.rd (E : RE K ρ σ H O) : ∀ {r : Val} {v : V} {d : D}, VR K ρ σ H O r v → Lf.rd ρ r = some d → Rd1 K H O v d
  | .sh d, v, _, h, e => by cases e; exact .inl h
  | .ow d, v, _, ⟨a, e1, o, _, _, q⟩, e => by cases e; exact .inr ⟨a, e1, o, q.r⟩
  | .bw i, v, d, h, e => by
    have e : (match ρ[i]? with
      | some (Slot.ow d) => some d
      | some (Slot.lk d) => some d
      | _ => none) = some d := e
    split at e
    · rename_i q
      cases e
      obtain ⟨a, e1, o, z⟩ := E.ow i _ q
      have h' : σ[i]? = some (some v) := h
      rw [h'] at e1; cases e1
      exact .inr ⟨a, rfl, o, z.r⟩
    · rename_i q
      cases e
      obtain ⟨a, e1, o, z⟩ := E.lk i _ q
      have h' : σ[i]? = some (some v) := h
      rw [h'] at e1; cases e1
      exact .inr ⟨a, rfl, o, z⟩
    · cases e

/-! ### what a pure operation leaves -/
structure NP (K : PySem.W.Frag) (H : Hp) (O : Addr → Prop) (r : Val) (v : V) (H' : Hp) (O' : Addr → Prop) : Prop where
  kp : ∀ b o, H b = some o → H' b = some o
  sk : ∀ b, O' b → O b ∨ H b = none
  st : ∀ b, O b → O' b
  vr : match r with
    | .sh d => Rp K H' O' v d
    | .ow d => ∃ a, v = .ref a ∧ H a = none ∧ O' a ∧ Ob K H' O' a d
    | .bw _ => False
theorem Ke.of (kp : ∀ b o, H b = some o → H' b = some o) (sk : ∀ b, O' b → O b ∨ H b = none) : Ke H H' O O' := ⟨fun b o h _ _ => kp b o h, sk⟩
theorem RE.ext (E : RE K ρ σ H O) (kp : ∀ b o, H b = some o → NT o → H' b = some o) (sk : ∀ b, O' b → O b ∨ H b = none) (st : ∀ b, O b → O' b) : RE K ρ σ H' O' := by
  have k : Ke H H' O O' := ⟨fun b o h t _ => kp b o h t, sk⟩
  refine ⟨E.len, fun i d h => ?_, fun i d h => ?_, fun i d h => ?_, E.inj⟩
  · obtain ⟨v, e, q⟩ := E.sh i d h
    exact ⟨v, e, q.ke k⟩
  · obtain ⟨a, e, o, q⟩ := E.ow i d h
    exact ⟨a, e, st _ o, q.ke k fun o' e' t => kp _ _ e' t⟩
  · obtain ⟨a, e, o, q⟩ := E.lk i d h
    exact ⟨a, e, st _ o, q.ke k fun o' e' t => kp _ _ e' t⟩
theorem NP.post (E : RE K ρ σ H O) {r : Val} {v : V} (n : NP K H O r v H' O') : EPost K ρ σ H O r ρ v H' O' := by
  refine ⟨E.ext (fun b o h _ => n.kp b o h) n.sk n.st, ⟨fun b o h _ _ => n.kp b o h, fun b o h => ⟨o, n.kp b o h⟩, n.sk, fun b _ _ h _ => n.st b h, fun b h => .inl h, fun _ b h => h, fun b h => h⟩, ?_, fun d a e1 e2 => ?_⟩
  rotate_left
  · have q := n.vr
    subst e1
    obtain ⟨b, e, h0, _⟩ := q
    rw [e2] at e; cases e
    exact .inl h0
  have q := n.vr
  cases r with
  | sh d => exact q
  | ow d =>
    obtain ⟨a, e, h0, o, z⟩ := q
    refine ⟨a, e, o, fun w => ?_, fun w => ?_, z⟩
    · obtain ⟨i, w⟩ := w.ol
      obtain ⟨_, ⟨u, hu⟩, _⟩ := E.ol w
      rw [h0] at hu; cases hu
    · obtain ⟨i, w⟩ := w.ol
      obtain ⟨_, ⟨u, hu⟩, _⟩ := E.ol w
      rw [h0] at hu; cases hu
  | bw i => exact q.elim
theorem NP.flat {d : D} {v : V} (h : Rp K H O v d) : NP K H O (.sh d) v H O := ⟨fun _ _ h => h, fun _ h => .inl h, fun _ h => h, h⟩
/-- O and one more -/
def addO (O : Addr → Prop) (p : Addr) : Addr → Prop := fun b => O b ∨ b = p
theorem upd_kp {p : Addr} {o : HO} (h : H p = none) : ∀ b u, H b = some u → upd H p o b = some u := fun b u e => by
  rw [upd_ne (ne_of_none e h)]; exact e
theorem ke_new {p : Addr} {o : HO} (h : H p = none) : Ke H (upd H p o) O (addO O p) := ⟨fun b u e _ _ => upd_kp h b u e, fun b z => by
  rcases z with z | z
  · exact .inl z
  · rw [z]; exact .inr h⟩
theorem ke_upd {p : Addr} {o : HO} (h : H p = none) : Ke H (upd H p o) O O := ⟨fun b u e _ _ => upd_kp h b u e, fun b z => .inl z⟩
theorem NP.newL {p : Addr} {xs : List V} {ds : List D} (h : H p = none) (r : RpAll K H O xs ds) : NP K H O (.ow (.lst ds)) (.ref p) (upd H p (.lst xs)) (addO O p) :=
  ⟨upd_kp h, (ke_new (o := .lst xs) h).sk, fun _ z => .inl z, p, rfl, h, .inr rfl, xs, upd_same, r.ke (ke_new h)⟩
theorem NP.newT {p : Addr} {xs : List V} {ds : List D} (h : H p = none) (r : RpAll K H O xs ds) : NP K H O (.sh (.tup ds)) (.ref p) (upd H p (.tup xs)) O :=
  ⟨upd_kp h, fun _ z => .inl z, fun _ z => z, .tup upd_same (r.ke (ke_upd h))⟩
theorem NP.newK {p : Addr} {kvs : List (Int × V)} (h : H p = none) : NP K H O (.ow (.dk kvs)) (.ref p) (upd H p (.dK (kvs.map kI))) (addO O p) :=
  ⟨upd_kp h, (ke_new (o := .dK (kvs.map kI)) h).sk, fun _ z => .inl z, p, rfl, h, .inr rfl, upd_same⟩
theorem NP.newDT {p : Addr} {kvs : List (List Int × V)} (h : H p = none) : NP K H O (.ow (.dt kvs)) (.ref p) (upd H p (.dT (kvs.map kT))) (addO O p) :=
  ⟨upd_kp h, (ke_new (o := .dT (kvs.map kT)) h).sk, fun _ z => .inl z, p, rfl, h, .inr rfl, upd_same⟩

/-! ### what is readable -/
theorem Rd1.int {v : V} {i : Int} (h : Rd1 K H O v (.int i)) : v = .int i := by
  rcases h with h | ⟨_, _, _, h⟩
  · cases h; rfl
  · exact h.elim
theorem Rd1.bl {v : V} {b : Bool} (h : Rd1 K H O v (.bl b)) : v = .bl b := by
  rcases h with h | ⟨_, _, _, h⟩
  · cases h; rfl
  · exact h.elim
theorem Rd1.str {v : V} {x : Str} (h : Rd1 K H O v (.str x)) : v = .str x := by
  rcases h with h | ⟨_, _, _, h⟩
  · cases h; rfl
  · exact h.elim
theorem Rd1.non {v : V} (h : Rd1 K H O v .non) : v = .non := by
  rcases h with h | ⟨_, _, _, h⟩
  · cases h; rfl
  · exact h.elim
theorem Rd1.tup {v : V} {ds : List D} (h : Rd1 K H O v (.tup ds)) : ∃ a xs, v = .ref a ∧ H a = some (.tup xs) ∧ RpAll K H O xs ds := by
  rcases h with h | ⟨_, _, _, h⟩
  · cases h with
    | tup h1 h2 => exact ⟨_, _, rfl, h1, h2⟩
  · exact h.elim
theorem Rd1.lst {v : V} {ds : List D} (h : Rd1 K H O v (.lst ds)) : ∃ a xs, v = .ref a ∧ SqL K H a xs ∧ RpAll K H O xs ds := by
  rcases h with h | ⟨a, e, _, xs, h1, h2⟩
  · cases h with
    | lst h1 _ h2 => exact ⟨_, _, rfl, .inl h1, h2⟩
    | lstK h1 h2 => exact ⟨_, _, rfl, .inr h1, h2⟩
  · exact ⟨a, xs, e, .inl h1, h2⟩
theorem Rd1.dk {v : V} {kvs : List (Int × V)} (h : Rd1 K H O v (.dk kvs)) : ∃ a, v = .ref a ∧ Rd H a (.dK (kvs.map kI)) := by
  rcases h with h | ⟨a, e, _, h1⟩
  · cases h with
    | dk h1 _ => exact ⟨_, rfl, h1⟩
  · exact ⟨a, e, h1⟩
theorem Rd1.dt {v : V} {kvs : List (List Int × V)} (h : Rd1 K H O v (.dt kvs)) : ∃ a, v = .ref a ∧ Rd H a (.dT (kvs.map kT)) := by
  rcases h with h | ⟨a, e, _, h1⟩
  · cases h with
    | dt h1 _ => exact ⟨_, rfl, h1⟩
  · exact ⟨a, e, h1⟩

/-! ### moves -/
/-- an owned slot gives its object away -/
def take (r : Val) (ρ : Env) : Option (Val × Env) :=
  match r with
  | .sh d => some (.sh d, ρ)
  | .ow d => some (.ow d, ρ)
  | .bw i => match ρ[i]? with
    | some (Slot.ow d) => some (.ow d, ρ.set i .no)
    | _ => none
theorem get_set {α : Type} {l : List α} {i j : Nat} {x y : α} (h : (l.set i x)[j]? = some y) : (j = i ∧ y = x) ∨ (j ≠ i ∧ l[j]? = some y) := by
  rw [List.getElem?_set] at h
  by_cases e : i = j
  · subst e
    split at h
    · split at h
      · exact .inl ⟨rfl, (Option.some.inj h).symm⟩
      · cases h
    · rename_i n
      exact absurd rfl n
  · rw [if_neg e] at h
    exact .inr ⟨fun z => e z.symm, h⟩
/-- a slot is emptied -/
theorem RE.drop (E : RE K ρ σ H O) (i : Nat) : RE K (ρ.set i .no) σ H O ∧ (∀ b, Ow (ρ.set i .no) σ b → Ow ρ σ b) ∧ (∀ j b, LkAt (ρ.set i .no) σ j b → LkAt ρ σ j b) ∧ ∀ j a, OL (ρ.set i .no) σ j a → OL ρ σ j a ∧ j ≠ i := by
  have g : ∀ {j : Nat} {x : Slot}, x ≠ .no → (ρ.set i .no)[j]? = some x → j ≠ i ∧ ρ[j]? = some x := fun n h => by
    rcases get_set h with ⟨_, e⟩ | h
    · exact absurd e n
    · exact h
  have ol : ∀ j a, OL (ρ.set i .no) σ j a → OL ρ σ j a ∧ j ≠ i := fun j a ⟨⟨d, h⟩, e⟩ => by
    rcases h with h | h
    · exact ⟨⟨⟨d, .inl (g (by simp) h).2⟩, e⟩, (g (by simp) h).1⟩
    · exact ⟨⟨⟨d, .inr (g (by simp) h).2⟩, e⟩, (g (by simp) h).1⟩
  refine ⟨⟨by rw [List.length_set]; exact E.len, fun j d h => E.sh j d (g (by simp) h).2, fun j d h => E.ow j d (g (by simp) h).2, fun j d h => E.lk j d (g (by simp) h).2, fun j k a h1 h2 => E.inj j k a (ol j a h1).1 (ol k a h2).1⟩,
    fun b ⟨j, d, h, e⟩ => ⟨j, d, (g (by simp) h).2, e⟩, fun j b ⟨⟨d, h⟩, e⟩ => ⟨⟨d, (g (by simp) h).2⟩, e⟩, ol⟩
theorem take_ok {ρ2 : Env} {r r' : Val} {v : V} (P : EPost K ρ σ H O r ρ1 v H1 O1) (t : take r ρ1 = some (r', ρ2)) :
    EPost K ρ σ H O r' ρ2 v H1 O1 ∧ (∃ d, r' = .sh d ∨ r' = .ow d) := by
  cases r with
  | sh d =>
    cases t
    exact ⟨P, _, .inl rfl⟩
  | ow d =>
    cases t
    exact ⟨P, _, .inr rfl⟩
  | bw i =>
    have t : (match ρ1[i]? with
      | some (Slot.ow d) => some (Val.ow d, ρ1.set i .no)
      | _ => none) = some (r', ρ2) := t
    split at t
    · rename_i d q
      cases t
      obtain ⟨E', w1, w2, ol⟩ := P.re.drop i
      obtain ⟨a, e1, o, z⟩ := P.re.ow i _ q
      have h' : σ[i]? = some (some v) := P.vr
      rw [h'] at e1; cases e1
      have me : OL ρ1 σ i a := ⟨⟨_, .inl q⟩, h'⟩
      refine ⟨⟨E', P.fr.trans ⟨fun _ _ h _ _ => h, fun _ o h => ⟨o, h⟩, fun _ h => .inl h, fun _ _ _ h _ => h, fun b h => .inl (w1 b h), fun j b h => w2 j b h, fun b h => (ol 0 b h).1⟩, ⟨a, rfl, o, fun w => ?_, fun w => ?_, z⟩, fun d' b e1 e2 => ?_⟩, _, .inr rfl⟩
      · obtain ⟨j, w⟩ := w.ol
        exact (ol j a w).2 (P.re.inj j i a (ol j a w).1 me)
      · obtain ⟨j, w⟩ := w.ol
        exact (ol j a w).2 (P.re.inj j i a (ol j a w).1 me)
      · cases e2
        rcases P.fr.ow a ⟨i, d, q, h'⟩ with z | z
        · exact .inr z
        · exact .inl z
    · cases t
/-- an owned value becomes shared: its address leaves O -/
def subO (O : Addr → Prop) (p : Addr) : Addr → Prop := fun b => O b ∧ b ≠ p
theorem Ob.rp {a : Addr} (n : ¬ O' a) (k : Ke H H O O') : ∀ {d : D}, Ob K H O a d → Rp K H O' (.ref a) d
  | .lst _, ⟨xs, h, r⟩ => .lst (.inl h) n (r.ke k)
  | .dk _, h => .dk (.inl (show H a = some _ from h)) n
  | .dt _, h => .dt (.inl (show H a = some _ from h)) n
  | .non, h => h.elim
  | .bl _, h => h.elim
  | .int _, h => h.elim
  | .str _, h => h.elim
  | .tup _, h => h.elim
def dat : Val → Option D
  | .sh d => some d
  | .ow d => some d
  | .bw _ => none
theorem share_ok {r : Val} {v : V} {d : D} (P : EPost K ρ σ H O r ρ1 v H1 O1) (t : dat r = some d) : ∃ O2, EPost K ρ σ H O (.sh d) ρ1 v H1 O2 := by
  cases r with
  | sh d' => cases t; exact ⟨O1, P⟩
  | bw i => cases t
  | ow d' =>
    cases t
    obtain ⟨a, e, o, nw, nl, q⟩ := P.vr
    subst e
    have k : Ke H1 H1 O1 (subO O1 a) := ⟨fun _ _ h _ _ => h, fun b z => .inl z.1⟩
    have ne : ∀ {i : Nat} {b : Addr}, OL ρ1 σ i b → b ≠ a := fun {i b} z e => by
      subst e
      obtain ⟨⟨d, z | z⟩, e⟩ := z
      · exact nw ⟨i, d, z, e⟩
      · exact nl ⟨i, d, z, e⟩
    refine ⟨subO O1 a, ⟨P.re.len, fun i d h => ?_, fun i d h => ?_, fun i d h => ?_, P.re.inj⟩, ⟨P.fr.kp, P.fr.al, fun b z => P.fr.sk b z.1, fun b u hu h n => ⟨P.fr.st b u hu h n, fun e => ?_⟩, P.fr.ow, P.fr.lk, P.fr.z0⟩, q.rp (fun z => z.2 rfl) k, fun d a e => nomatch e⟩
    · obtain ⟨v, e, q⟩ := P.re.sh i d h
      exact ⟨v, e, q.ke k⟩
    · obtain ⟨b, e, o, q⟩ := P.re.ow i d h
      exact ⟨b, e, ⟨o, ne (i := i) ⟨⟨d, .inl h⟩, e⟩⟩, q.ke k fun _ e _ => e⟩
    · obtain ⟨b, e, o, q⟩ := P.re.lk i d h
      exact ⟨b, e, ⟨o, ne (i := i) ⟨⟨d, .inr h⟩, e⟩⟩, q.ke k fun _ e _ => e⟩
    · subst e
      rcases P.og _ _ rfl rfl with z | z
      · rw [hu] at z; cases z
      · exact n z
end

/-! ### the judgement -/
def bnd {α β : Type} (m : Option (R α)) (k : α → Env → Option (R β)) : Option (R β) :=
  match m with
  | none => none
  | some (.er c) => some (.er c)
  | some (.ok a ρ) => k a ρ
def Post (X : Cx) (W : WX) (ρ : Env) (σ : St) (H : Hp) (O : Addr → Prop) (Q : VK) : Option (R Val) → Prop
  | none => False
  | some (.er c) => ∀ cls d H', XR X.mg c cls d H' → FrX ρ σ H H' → W cls d σ H'
  | some (.ok r ρ') => ∀ v H' O', EPost X.K ρ σ H O r ρ' v H' O' → Q v H'
def tV (X : Cx) (W : WX) (f : Ev Val) : TE := fun σ H Q => ∃ ρ O, RE X.K ρ σ H O ∧ Post X W ρ σ H O Q (f ρ)
structure VE (X : Cx) (W : WX) (e : Expr) (f : Ev Val) : Prop where
  pe : PE X e (tV X W f)
section
variable {X : Cx} {W : WX} {ρ ρ1 ρ' : Env} {σ σ' : St} {H H1 H' : Hp} {O O1 O' : Addr → Prop} {Q Q' : VK} {e : Expr} {f g : Ev Val}
theorem PE.imp {t t' : TE} (h : PE X e t) (hi : ∀ σ H Q, t' σ H Q → t σ H Q) : PE X e t' := ⟨fun pins s σ H Q I q => h.run pins s σ H Q I (hi σ H Q q)⟩
theorem FrX.trans (F : Fr ρ σ H O ρ1 σ' H1 O1) (h : FrX ρ1 σ' H1 H') : FrX ρ σ H H' := fun b o e t n => h b o (F.kp b o e t n) t fun z => by
  rcases F.ow b z with z | z
  · exact n z
  · rw [e] at z; cases z
theorem EPost.after {K : PySem.W.Frag} {r : Val} {v : V} (F : Fr ρ σ H O ρ1 σ H1 O1) (P : EPost K ρ1 σ H1 O1 r ρ' v H' O') : EPost K ρ σ H O r ρ' v H' O' := by
  refine ⟨P.re, F.trans P.fr, P.vr, fun d a e1 e2 => ?_⟩
  rcases P.og d a e1 e2 with z | z
  · refine .inl ?_
    cases q : H a with
    | none => rfl
    | some o =>
      obtain ⟨o', e⟩ := F.al a o q
      rw [z] at e; cases e
  · rcases F.ow a z with z | z
    · exact .inr z
    · exact .inl z
theorem Post.step (F : Fr ρ σ H O ρ1 σ H1 O1) : ∀ {m : Option (R Val)}, Post X W ρ σ H O Q m → Post X W ρ1 σ H1 O1 Q m
  | none, h => h
  | some (.er c), h => fun cls d H' x k => h cls d H' x (FrX.trans F k)
  | some (.ok r ρ'), h => fun v H' O' P => h v H' O' (P.after F)
theorem Post.mono (hq : ∀ v H, Q v H → Q' v H) : ∀ {m : Option (R Val)}, Post X W ρ σ H O Q m → Post X W ρ σ H O Q' m
  | none, h => h
  | some (.er c), h => h
  | some (.ok r ρ'), h => fun v H' O' P => hq v H' (h v H' O' P)
theorem tV.mono (hq : ∀ v H, Q v H → Q' v H) (h : tV X W f σ H Q) : tV X W f σ H Q' :=
  let ⟨ρ, O, E, p⟩ := h
  ⟨ρ, O, E, p.mono hq⟩
/-- one evaluation, then what hangs on it. Rst: what is wanted of the rest -/
theorem tV_bnd {α : Type} {k : Val → Env → Option (R α)} {Rst : Env → Hp → (Addr → Prop) → Option (R α) → Prop}
    (E : RE X.K ρ σ H O) (hn : ¬ Rst ρ H O none) (he : ∀ c, Rst ρ H O (some (.er c)) → ∀ cls d H', XR X.mg c cls d H' → FrX ρ σ H H' → W cls d σ H')
    (hs : ∀ ρ1 H1 O1 m, Fr ρ σ H O ρ1 σ H1 O1 → Rst ρ H O m → Rst ρ1 H1 O1 m) (h : Rst ρ H O (bnd (f ρ) k)) :
    tV X W f σ H fun v H1 => ∃ r ρ1 O1, RE X.K ρ1 σ H1 O1 ∧ VR X.K ρ1 σ H1 O1 r v ∧ Rst ρ1 H1 O1 (k r ρ1) := by
  refine ⟨ρ, O, E, ?_⟩
  cases q : f ρ with
  | none => rw [q] at h; exact hn h
  | some m =>
    rw [q] at h
    cases m with
    | er c => exact he c h
    | ok r ρ1 => exact fun v H1 O1 P => ⟨r, ρ1, O1, P.re, P.vr, hs _ _ _ _ P.fr h⟩
theorem tV_bndV {k : Val → Env → Option (R Val)} (E : RE X.K ρ σ H O) (h : Post X W ρ σ H O Q (bnd (f ρ) k)) :
    tV X W f σ H fun v H1 => ∃ r ρ1 O1, RE X.K ρ1 σ H1 O1 ∧ VR X.K ρ1 σ H1 O1 r v ∧ Post X W ρ1 σ H1 O1 Q (k r ρ1) :=
  tV_bnd (Rst := fun ρ H O m => Post X W ρ σ H O Q m) E (fun z => z) (fun c z => z) (fun _ _ _ _ F z => z.step F) h
theorem VE.imp (h : VE X W e f) (hi : ∀ σ H Q, tV X W g σ H Q → tV X W f σ H Q) : VE X W e g := ⟨PE.imp h.pe hi⟩
/-- owned from here on -/
def xTk (f : Ev Val) : Ev Val := fun ρ => bnd (f ρ) fun r ρ1 => (take r ρ1).map fun p => .ok p.1 p.2
def xSh (f : Ev Val) : Ev Val := fun ρ => bnd (f ρ) fun r ρ1 => (take r ρ1).bind fun p => (dat p.1).map fun d => .ok (.sh d) p.2
theorem ve_tk (h : VE X W e f) : VE X W e (xTk f) := h.imp fun σ H Q ⟨ρ, O, E, p⟩ => ⟨ρ, O, E, by
  unfold xTk at p
  cases q : f ρ with
  | none => rw [q] at p; exact p
  | some m =>
    rw [q] at p
    cases m with
    | er c => exact p
    | ok r ρ1 =>
      intro v H1 O1 P
      have p : Post X W ρ σ H O Q ((take r ρ1).map fun p => .ok p.1 p.2) := p
      cases t : take r ρ1 with
      | none => rw [t] at p; exact p.elim
      | some z =>
        rw [t] at p
        exact p v H1 O1 (take_ok P t).1⟩
theorem ve_sh (h : VE X W e f) : VE X W e (xSh f) := h.imp fun σ H Q ⟨ρ, O, E, p⟩ => ⟨ρ, O, E, by
  unfold xSh at p
  cases q : f ρ with
  | none => rw [q] at p; exact p
  | some m =>
    rw [q] at p
    cases m with
    | er c => exact p
    | ok r ρ1 =>
      intro v H1 O1 P
      have p : Post X W ρ σ H O Q ((take r ρ1).bind fun p => (dat p.1).map fun d => .ok (.sh d) p.2) := p
      cases t : take r ρ1 with
      | none => rw [t] at p; exact p.elim
      | some z =>
        rw [t] at p
        have p : Post X W ρ σ H O Q ((dat z.1).map fun d => .ok (.sh d) z.2) := p
        cases t2 : dat z.1 with
        | none => rw [t2] at p; exact p.elim
        | some d =>
          rw [t2] at p
          obtain ⟨O2, P2⟩ := share_ok (take_ok P t).1 t2
          exact p v H1 O2 P2⟩
end
end Lf

set_option Elab.async false
set_option linter.all false
set_option maxRecDepth 100000
/-! Lf, part C: names, constants, operators, tests, displays, argument lists. -/
namespace Lf
open PySem PySem.Spec L2

section
variable {X : Cx} {W : WX} {pos : Pos} {a b c e : Expr} {es rest : List Expr} {f fa fb fc : Ev Val}

/-! ### names, constants -/
def xVar (i : Nat) : Ev Val := fun ρ => match ρ[i]? with
  | some (Slot.sh d) => some (.ok (.sh d) ρ)
  | some (Slot.ow _) => some (.ok (.bw i) ρ)
  | some (Slot.lk _) => some (.ok (.bw i) ρ)
  | _ => none
theorem ve_var (i : Nat) {x : Str} (hN : X.N[i]? = some x := by rfl) (hv : Vis X.env.scope x := by first | exact Or.inl rfl | exact Or.inr (Or.inl rfl) | exact Or.inr (Or.inr rfl)) (hd : (x == ("__debug__" : Str)) = false := by decide)
    (hcd : (x == ("__classdict__" : Str)) = false := by decide) : VE X W (.Name x pos) (xVar i) := ⟨PE.imp (pe_var hN hv hd hcd) fun σ H Q ⟨ρ, O, E, p⟩ => by
  unfold xVar at p
  split at p
  · rename_i d q
    obtain ⟨v, e, r⟩ := E.sh i d q
    exact ⟨v, e, p v H O ⟨E, Fr.refl, r, fun _ _ e => nomatch e⟩⟩
  · rename_i d q
    obtain ⟨a, e, _, _⟩ := E.ow i d q
    exact ⟨_, e, p _ H O ⟨E, Fr.refl, e, fun _ _ e => nomatch e⟩⟩
  · rename_i d q
    obtain ⟨a, e, _, _⟩ := E.lk i d q
    exact ⟨_, e, p _ H O ⟨E, Fr.refl, e, fun _ _ e => nomatch e⟩⟩
  · exact p.elim⟩
def xC (d : D) : Ev Val := fun ρ => some (.ok (.sh d) ρ)
theorem ve_c {v : V} {d : D} (h : PE X e (tC v)) (r : ∀ O H, Rp X.K H O v d) : VE X W e (xC d) := ⟨PE.imp h fun σ H Q ⟨ρ, O, E, p⟩ => p v H O ⟨E, Fr.refl, r O H, fun _ _ e => nomatch e⟩⟩
theorem ve_int {i j} : VE X W (.Constant (.int i) j pos) (xC (.int i)) := ve_c pe_int fun _ _ => .int i
theorem ve_bl {i j} : VE X W (.Constant (.bool i) j pos) (xC (.bl i)) := ve_c pe_bl fun _ _ => .bl i
theorem ve_non {j} : VE X W (.Constant .none j pos) (xC .non) := ve_c pe_non fun _ _ => .non
theorem ve_str {i j} : VE X W (.Constant (.str i) j pos) (xC (.str i)) := ve_c pe_str fun _ _ => .str i
theorem ve_globI {x : Str} {i : Int} {t : Tok} (hg : Gl X x) (hm : X.mg x = some (.int i t)) (hd : (x == ("__debug__" : Str)) = false := by decide) : VE X W (.Name x pos) (xC (.int i)) := ve_c (v := .int i) (pe_glob hg hm ⟨t, rfl⟩ hd) fun _ _ => .int i
/-- what is never come to -/
def xNone {α : Type} : Ev α := fun _ => none
theorem ve_none : VE X W e xNone := ⟨⟨fun _ _ _ _ _ _ ⟨_, _, _, p⟩ => p.elim⟩⟩

/-! ### operators -/
def rD1 (X : Cx) (g : D → Option Val) : V → Hp → VK → Prop := fun x H Q => ∃ O dx r, Rd1 X.K H O x dx ∧ g dx = some r ∧ ∀ v H' O', NP X.K H O r v H' O' → Q v H'
def rD2 (X : Cx) (g : D → D → Option Val) : R2 := fun x y H Q => ∃ O dx dy r, Rd1 X.K H O x dx ∧ Rd1 X.K H O y dy ∧ g dx dy = some r ∧ ∀ v H' O', NP X.K H O r v H' O' → Q v H'
def fin1 (g : D → Option Val) (x : Val) (ρ : Env) : Option (R Val) := (rd ρ x).bind fun dx => (g dx).map fun r => .ok r ρ
def fin2 (g : D → D → Option Val) (x y : Val) (ρ : Env) : Option (R Val) := (rd ρ x).bind fun dx => (rd ρ y).bind fun dy => (g dx dy).map fun r => .ok r ρ
def xBin (g : D → D → Option Val) (fa fb : Ev Val) : Ev Val := fun ρ => bnd (fa ρ) fun x ρ1 => bnd (fb ρ1) fun y ρ2 => fin2 g x y ρ2
def xUn (g : D → Option Val) (fa : Ev Val) : Ev Val := fun ρ => bnd (fa ρ) fun x ρ1 => fin1 g x ρ1
theorem fin1_ok {ρ : Env} {σ : St} {H : Hp} {O : Addr → Prop} {Q : VK} {g : D → Option Val} {x : Val} {v : V} (E : RE X.K ρ σ H O) (hx : VR X.K ρ σ H O x v) (p : Post X W ρ σ H O Q (fin1 g x ρ)) : rD1 X g v H Q := by
  unfold fin1 at p
  cases q1 : rd ρ x with
  | none => rw [q1] at p; exact p.elim
  | some dx =>
    rw [q1] at p
    have p : Post X W ρ σ H O Q ((g dx).map fun r => .ok r ρ) := p
    cases q3 : g dx with
    | none => rw [q3] at p; exact p.elim
    | some r =>
      rw [q3] at p
      exact ⟨O, dx, r, hx.rd E q1, q3, fun v H' O' n => p v H' O' (n.post E)⟩
theorem fin2_ok {ρ : Env} {σ : St} {H : Hp} {O : Addr → Prop} {Q : VK} {g : D → D → Option Val} {x y : Val} {v u : V} (E : RE X.K ρ σ H O) (hx : VR X.K ρ σ H O x v) (hy : VR X.K ρ σ H O y u) (p : Post X W ρ σ H O Q (fin2 g x y ρ)) : rD2 X g v u H Q := by
  unfold fin2 at p
  cases q1 : rd ρ x with
  | none => rw [q1] at p; exact p.elim
  | some dx =>
    rw [q1] at p
    have p : Post X W ρ σ H O Q ((rd ρ y).bind fun dy => (g dx dy).map fun r => .ok r ρ) := p
    cases q2 : rd ρ y with
    | none => rw [q2] at p; exact p.elim
    | some dy =>
      rw [q2] at p
      have p : Post X W ρ σ H O Q ((g dx dy).map fun r => .ok r ρ) := p
      cases q3 : g dx dy with
      | none => rw [q3] at p; exact p.elim
      | some r =>
        rw [q3] at p
        exact ⟨O, dx, dy, r, hx.rd E q1, hy.rd E q2, q3, fun v H' O' n => p v H' O' (n.post E)⟩
/-- what an evaluation of two gives: the later one's environment, the earlier value carried on -/
def Rst2 (X : Cx) (W : WX) (σ : St) (Q : VK) (x : Val) (v : V) (ρ : Env) (H : Hp) (O : Addr → Prop) (m : Option (R Val)) : Prop := VR X.K ρ σ H O x v ∧ RE X.K ρ σ H O ∧ Post X W ρ σ H O Q m
theorem bin_ok {g : D → D → Option Val} {σ : St} {H : Hp} {Q : VK} (h : tV X W (xBin g fa fb) σ H Q) : tOp (rD2 X g) (tV X W fa) (tV X W fb) σ H Q := by
  obtain ⟨ρ, O, E, p⟩ := h
  refine tV.mono (fun v H1 ⟨x, ρ1, O1, E1, V1, p1⟩ => ?_) (tV_bndV E p)
  -- the second one
  refine ⟨ρ1, O1, E1, ?_⟩
  cases q : fb ρ1 with
  | none => rw [q] at p1; exact p1
  | some m =>
    rw [q] at p1
    cases m with
    | er c => exact p1
    | ok y ρ2 => exact fun u H2 O2 P => fin2_ok P.re (V1.later E1 P.fr) P.vr (Post.step P.fr p1)
theorem un_ok {g : D → Option Val} {σ : St} {H : Hp} {Q : VK} (h : tV X W (xUn g fa) σ H Q) : tV X W fa σ H fun v H1 => rD1 X g v H1 Q := by
  obtain ⟨ρ, O, E, p⟩ := h
  exact tV.mono (fun v H1 ⟨x, ρ1, O1, E1, V1, p1⟩ => fin1_ok E1 V1 p1) (tV_bndV E p)
theorem ve_op {op : Operator} {g : D → D → Option Val} (ho : OpR X (binaryOp op) (rD2 X g)) (ha : VE X W a fa) (hb : VE X W b fb) : VE X W (.BinOp a op b pos) (xBin g fa fb) := ⟨PE.imp (pe_op ho ha.pe hb.pe) fun _ _ _ => bin_ok⟩
theorem ve_cmp {op : CmpOp} {g : D → D → Option Val} (ho : OpR X (compareOp op) (rD2 X g)) (ha : VE X W a fa) (hb : VE X W b fb) (hm : behindInMarks op b = false := by first | exact nomark _ | rfl) : VE X W (.Compare a [op] [b] pos) (xBin g fa fb) := ⟨PE.imp (pe_cmpR ho ha.pe hb.pe hm) fun _ _ _ => bin_ok⟩
theorem ve_ix {g : D → D → Option Val} (hr : IxR X (rD2 X g)) (ha : VE X W a fa) (hb : VE X W b fb) (hs : PlainIx b := by exact fun _ _ => rfl) : VE X W (.Subscript a b pos) (xBin g fa fb) := ⟨PE.imp (pe_ix hr ha.pe hb.pe hs) fun _ _ _ => bin_ok⟩
theorem ve_un {op : UnaryOp} {g : D → Option Val} (ho : UnR X (unaryOp op) (rD1 X g)) (ha : VE X W a fa) : VE X W (.UnaryOp op a pos) (xUn g fa) := ⟨PE.imp (pe_un ho ha.pe) fun _ _ _ => un_ok⟩

/-! ### tests -/
def PostT (X : Cx) (W : WX) (ρ : Env) (σ : St) (H : Hp) (O : Addr → Prop) (Q : Bool → Hp → Prop) : Option (R Bool) → Prop
  | none => False
  | some (.er c) => ∀ cls d H', XR X.mg c cls d H' → FrX ρ σ H H' → W cls d σ H'
  | some (.ok b ρ') => ∀ H' O', RE X.K ρ' σ H' O' → Fr ρ σ H O ρ' σ H' O' → Q b H'
def tT (X : Cx) (W : WX) (f : Ev Bool) : TT := fun σ H Q => ∃ ρ O, RE X.K ρ σ H O ∧ PostT X W ρ σ H O Q (f ρ)
structure VT (X : Cx) (W : WX) (e : Expr) (f : Ev Bool) : Prop where
  pt : PT X e (tT X W f)
structure VW (X : Cx) (W : WX) (e : Expr) (f : Ev Bool) : Prop where
  pw : PW X e (tT X W f)
theorem PT.imp {t t' : TT} (h : PT X e t) (hi : ∀ σ H Q, t' σ H Q → t σ H Q) : PT X e t' := ⟨fun pins s σ H Q I q => h.run pins s σ H Q I (hi σ H Q q)⟩
theorem PW.imp {t t' : TT} (h : PW X e t) (hi : ∀ σ H Q, t' σ H Q → t σ H Q) : PW X e t' := ⟨fun wh pins s σ H Q I q => h.run wh pins s σ H Q I (hi σ H Q q)⟩
theorem VW.vt {g : Ev Bool} (h : VW X W e g) : VT X W e g := ⟨h.pw.pt⟩
theorem PostT.step {ρ ρ1 : Env} {σ : St} {H H1 : Hp} {O O1 : Addr → Prop} {Q : Bool → Hp → Prop} (F : Fr ρ σ H O ρ1 σ H1 O1) : ∀ {m : Option (R Bool)}, PostT X W ρ σ H O Q m → PostT X W ρ1 σ H1 O1 Q m
  | none, h => h
  | some (.er c), h => fun cls d H' x k => h cls d H' x (FrX.trans F k)
  | some (.ok r ρ'), h => fun H' O' E F' => h H' O' E (F.trans F')
theorem PostT.mono {ρ : Env} {σ : St} {H : Hp} {O : Addr → Prop} {Q Q' : Bool → Hp → Prop} (hq : ∀ v H, Q v H → Q' v H) : ∀ {m : Option (R Bool)}, PostT X W ρ σ H O Q m → PostT X W ρ σ H O Q' m
  | none, h => h
  | some (.er c), h => h
  | some (.ok r ρ'), h => fun H' O' E F => hq r H' (h H' O' E F)
theorem tT.mono {g : Ev Bool} {σ : St} {H : Hp} {Q Q' : Bool → Hp → Prop} (hq : ∀ v H, Q v H → Q' v H) (h : tT X W g σ H Q) : tT X W g σ H Q' :=
  let ⟨ρ, O, E, p⟩ := h
  ⟨ρ, O, E, p.mono hq⟩
/-- an expression, then a rest of a test -/
theorem tV_bndT {k : Val → Env → Option (R Bool)} {ρ : Env} {σ : St} {H : Hp} {O : Addr → Prop} {Q : Bool → Hp → Prop} (E : RE X.K ρ σ H O) (h : PostT X W ρ σ H O Q (bnd (f ρ) k)) :
    tV X W f σ H fun v H1 => ∃ r ρ1 O1, RE X.K ρ1 σ H1 O1 ∧ VR X.K ρ1 σ H1 O1 r v ∧ PostT X W ρ1 σ H1 O1 Q (k r ρ1) :=
  tV_bnd (Rst := fun ρ H O m => PostT X W ρ σ H O Q m) E (fun z => z) (fun c z => z) (fun _ _ _ _ F z => z.step F) h
/-- a test, then a rest -/
theorem tT_bnd {α : Type} {g : Ev Bool} {ρ : Env} {σ : St} {H : Hp} {O : Addr → Prop} {k : Bool → Env → Option (R α)} {Rst : Env → Hp → (Addr → Prop) → Option (R α) → Prop}
    (E : RE X.K ρ σ H O) (hn : ¬ Rst ρ H O none) (he : ∀ c, Rst ρ H O (some (.er c)) → ∀ cls d H', XR X.mg c cls d H' → FrX ρ σ H H' → W cls d σ H')
    (hs : ∀ ρ1 H1 O1 m, Fr ρ σ H O ρ1 σ H1 O1 → Rst ρ H O m → Rst ρ1 H1 O1 m) (h : Rst ρ H O (bnd (g ρ) k)) :
    tT X W g σ H fun b H1 => ∃ ρ1 O1, RE X.K ρ1 σ H1 O1 ∧ Rst ρ1 H1 O1 (k b ρ1) := by
  refine ⟨ρ, O, E, ?_⟩
  cases q : g ρ with
  | none => rw [q] at h; exact hn h
  | some m =>
    rw [q] at h
    cases m with
    | er c => exact he c h
    | ok r ρ1 => exact fun H1 O1 E1 F => ⟨ρ1, O1, E1, hs _ _ _ _ F h⟩
theorem tT_bndT {g : Ev Bool} {ρ : Env} {σ : St} {H : Hp} {O : Addr → Prop} {k : Bool → Env → Option (R Bool)} {Q : Bool → Hp → Prop} (E : RE X.K ρ σ H O) (h : PostT X W ρ σ H O Q (bnd (g ρ) k)) :
    tT X W g σ H fun b H1 => ∃ ρ1 O1, RE X.K ρ1 σ H1 O1 ∧ PostT X W ρ1 σ H1 O1 Q (k b ρ1) :=
  tT_bnd (Rst := fun ρ H O m => PostT X W ρ σ H O Q m) E (fun z => z) (fun c z => z) (fun _ _ _ _ F z => z.step F) h
theorem tT_bndV {g : Ev Bool} {ρ : Env} {σ : St} {H : Hp} {O : Addr → Prop} {k : Bool → Env → Option (R Val)} {Q : VK} (E : RE X.K ρ σ H O) (h : Post X W ρ σ H O Q (bnd (g ρ) k)) :
    tT X W g σ H fun b H1 => ∃ ρ1 O1, RE X.K ρ1 σ H1 O1 ∧ Post X W ρ1 σ H1 O1 Q (k b ρ1) :=
  tT_bnd (Rst := fun ρ H O m => Post X W ρ σ H O Q m) E (fun z => z) (fun c z => z) (fun _ _ _ _ F z => z.step F) h
/-- the truth of a bool, an int -/
def tru : D → Option Bool
  | .bl b => some b
  | .int i => some (i != 0)
  | _ => none
def xTr (f : Ev Val) : Ev Bool := fun ρ => bnd (f ρ) fun x ρ1 => (rd ρ1 x).bind fun d => (tru d).map fun b => .ok b ρ1
theorem tr_ok {ρ : Env} {σ : St} {H : Hp} {O : Addr → Prop} {Q : Bool → Hp → Prop} {x : Val} {v : V} (E : RE X.K ρ σ H O) (hx : VR X.K ρ σ H O x v) (p : PostT X W ρ σ H O Q ((rd ρ x).bind fun d => (tru d).map fun b => .ok b ρ)) : ∃ k, TruV X.K v H k ∧ Q k H := by
  cases q1 : rd ρ x with
  | none => rw [q1] at p; exact p.elim
  | some d =>
    rw [q1] at p
    have p : PostT X W ρ σ H O Q ((tru d).map fun b => .ok b ρ) := p
    have r := hx.rd E q1
    cases d with
    | bl b =>
      rw [r.bl]
      exact ⟨b, rfl, p H O E Fr.refl⟩
    | int i =>
      rw [r.int]
      exact ⟨i != 0, rfl, p H O E Fr.refl⟩
    | _ => exact p.elim
theorem vt_tr (h : VE X W e f) (he : ∀ whole, isTrue e X.env whole = (do let v ← whole; standAt e.pos; holding [v] (truthy v)) := by intro _; rfl) : VT X W e (xTr f) := ⟨PT.imp (pt_truth h.pe he) fun σ H Q ⟨ρ, O, E, p⟩ =>
  tV.mono (fun v H1 ⟨x, ρ1, O1, E1, V1, p1⟩ => tr_ok E1 V1 p1) (tV_bndT E p)⟩
/-- a comparison as a test -/
def asBl (ρ : Env) : Val → Option (R Bool)
  | .sh (.bl k) => some (.ok k ρ)
  | _ => none
def xCmpT (g : D → D → Option Val) (fa fb : Ev Val) : Ev Bool := fun ρ => bnd (fa ρ) fun x ρ1 => bnd (fb ρ1) fun y ρ2 => (rd ρ2 x).bind fun dx => (rd ρ2 y).bind fun dy => (g dx dy).bind fun r => asBl ρ2 r
theorem cmpT_ok {g : D → D → Option Val} {σ : St} {H : Hp} {Q : Bool → Hp → Prop} (h : tT X W (xCmpT g fa fb) σ H Q) : tTest (tOp (rD2 X g) (tV X W fa) (tV X W fb)) σ H Q := by
  obtain ⟨ρ, O, E, p⟩ := h
  refine tV.mono (fun v H1 ⟨x, ρ1, O1, E1, V1, p1⟩ => ?_) (tV_bndT E p)
  refine ⟨ρ1, O1, E1, ?_⟩
  cases q : fb ρ1 with
  | none => rw [q] at p1; exact p1
  | some m =>
    rw [q] at p1
    cases m with
    | er c => exact p1
    | ok y ρ2 =>
      intro u H2 O2 P
      have p2 := PostT.step P.fr p1
      have V2 := V1.later E1 P.fr
      have p2 : PostT X W ρ2 σ H2 O2 Q ((rd ρ2 x).bind fun dx => (rd ρ2 y).bind fun dy => (g dx dy).bind fun r => asBl ρ2 r) := p2
      cases q1 : rd ρ2 x with
      | none => rw [q1] at p2; exact p2.elim
      | some dx =>
        rw [q1] at p2
        have p2 : PostT X W ρ2 σ H2 O2 Q ((rd ρ2 y).bind fun dy => (g dx dy).bind fun r => asBl ρ2 r) := p2
        cases q2 : rd ρ2 y with
        | none => rw [q2] at p2; exact p2.elim
        | some dy =>
          rw [q2] at p2
          have p2 : PostT X W ρ2 σ H2 O2 Q ((g dx dy).bind fun r => asBl ρ2 r) := p2
          cases q3 : g dx dy with
          | none => rw [q3] at p2; exact p2.elim
          | some r =>
            rw [q3] at p2
            refine ⟨O2, dx, dy, r, V2.rd P.re q1, P.vr.rd P.re q2, q3, fun w H' O' n => ?_⟩
            have p2 : PostT X W ρ2 σ H2 O2 Q (asBl ρ2 r) := p2
            have z := n.vr
            match r, p2, z with
            | .sh (.bl k), p2, z =>
              cases z
              exact ⟨k, rfl, p2 H' O' (n.post P.re).re (n.post P.re).fr⟩
theorem vt_cmp {op : CmpOp} {g : D → D → Option Val} (ho : OpR X (compareOp op) (rD2 X g)) (ha : VE X W a fa) (hb : VE X W b fb) (hm : behindInMarks op b = false := by first | exact nomark _ | rfl) : VT X W (.Compare a [op] [b] pos) (xCmpT g fa fb) :=
  ⟨PT.imp (pt_cmpR ho ha.pe hb.pe hm) fun _ _ _ => cmpT_ok⟩
def xNot (g : Ev Bool) : Ev Bool := fun ρ => bnd (g ρ) fun b ρ1 => some (.ok (!b) ρ1)
theorem vt_not {g : Ev Bool} (h : VT X W a g) : VT X W (.UnaryOp .Not a pos) (xNot g) := ⟨PT.imp (pt_not h.pt) fun σ H Q ⟨ρ, O, E, p⟩ =>
  tT.mono (fun v H1 ⟨ρ1, O1, E1, p1⟩ => p1 H1 O1 E1 Fr.refl) (tT_bndT E p)⟩
def xAnd (g h : Ev Bool) : Ev Bool := fun ρ => bnd (g ρ) fun b ρ1 => if b = true then h ρ1 else some (.ok false ρ1)
def xOr (g h : Ev Bool) : Ev Bool := fun ρ => bnd (g ρ) fun b ρ1 => if b = true then some (.ok true ρ1) else h ρ1
theorem vw_and1 {g : Ev Bool} (h : VT X W a g) : VW X W (.BoolOp .And [a] pos) g := ⟨pw_and1 h.pt⟩
theorem vw_or1 {g : Ev Bool} (h : VT X W a g) : VW X W (.BoolOp .Or [a] pos) g := ⟨pw_or1 h.pt⟩
theorem vw_and {g g' : Ev Bool} (h : VT X W a g) (h' : VW X W (.BoolOp .And (b :: rest) pos) g') : VW X W (.BoolOp .And (a :: b :: rest) pos) (xAnd g g') := ⟨PW.imp (pw_and h.pt h'.pw) fun σ H Q ⟨ρ, O, E, p⟩ =>
  tT.mono (fun v H1 ⟨ρ1, O1, E1, p1⟩ => by
    cases v with
    | true => exact ⟨ρ1, O1, E1, p1⟩
    | false => exact p1 H1 O1 E1 Fr.refl) (tT_bndT E p)⟩
theorem vw_or {g g' : Ev Bool} (h : VT X W a g) (h' : VW X W (.BoolOp .Or (b :: rest) pos) g') : VW X W (.BoolOp .Or (a :: b :: rest) pos) (xOr g g') := ⟨PW.imp (pw_or h.pt h'.pw) fun σ H Q ⟨ρ, O, E, p⟩ =>
  tT.mono (fun v H1 ⟨ρ1, O1, E1, p1⟩ => by
    cases v with
    | true => exact p1 H1 O1 E1 Fr.refl
    | false => exact ⟨ρ1, O1, E1, p1⟩) (tT_bndT E p)⟩
/-- .. as values: bools -/
def isBl (x : Val) (ρ : Env) : Option Bool := match rd ρ x with
  | some (.bl b) => some b
  | _ => none
def xAndV (fa fb : Ev Val) : Ev Val := fun ρ => bnd (fa ρ) fun x ρ1 => (isBl x ρ1).bind fun c => if c = true then fb ρ1 else some (.ok (.sh (.bl false)) ρ1)
def xOrV (fa fb : Ev Val) : Ev Val := fun ρ => bnd (fa ρ) fun x ρ1 => (isBl x ρ1).bind fun c => if c = true then some (.ok (.sh (.bl true)) ρ1) else fb ρ1
def xNotV (fa : Ev Val) : Ev Val := fun ρ => bnd (fa ρ) fun x ρ1 => (isBl x ρ1).bind fun c => some (.ok (.sh (.bl (!c))) ρ1)
theorem isBl_ok {ρ : Env} {σ : St} {H : Hp} {O : Addr → Prop} {x : Val} {v : V} {c : Bool} (E : RE X.K ρ σ H O) (hx : VR X.K ρ σ H O x v) (q : isBl x ρ = some c) : v = .bl c := by
  unfold isBl at q
  split at q
  · rename_i b h
    cases q
    exact (hx.rd E h).bl
  · cases q
theorem ve_one {op : BoolOp} (h : VE X W a f) : VE X W (.BoolOp op [a] pos) f := ⟨pe_one h.pe⟩
theorem ve_and (ha : VE X W a fa) (hb : VE X W (.BoolOp .And (b :: rest) pos) fb) : VE X W (.BoolOp .And (a :: b :: rest) pos) (xAndV fa fb) := ⟨PE.imp (pe_and ha.pe hb.pe) fun σ H Q ⟨ρ, O, E, p⟩ =>
  tV.mono (fun v H1 ⟨x, ρ1, O1, E1, V1, p1⟩ => by
    cases q : isBl x ρ1 with
    | none => rw [q] at p1; exact p1.elim
    | some c =>
      rw [q] at p1
      refine ⟨c, isBl_ok E1 V1 q, ?_⟩
      cases c with
      | true => exact ⟨ρ1, O1, E1, p1⟩
      | false => exact p1 (.bl false) H1 O1 ⟨E1, Fr.refl, .bl false, fun _ _ e => nomatch e⟩) (tV_bndV E p)⟩
theorem ve_or (ha : VE X W a fa) (hb : VE X W (.BoolOp .Or (b :: rest) pos) fb) : VE X W (.BoolOp .Or (a :: b :: rest) pos) (xOrV fa fb) := ⟨PE.imp (pe_or ha.pe hb.pe) fun σ H Q ⟨ρ, O, E, p⟩ =>
  tV.mono (fun v H1 ⟨x, ρ1, O1, E1, V1, p1⟩ => by
    cases q : isBl x ρ1 with
    | none => rw [q] at p1; exact p1.elim
    | some c =>
      rw [q] at p1
      refine ⟨c, isBl_ok E1 V1 q, ?_⟩
      cases c with
      | true => exact p1 (.bl true) H1 O1 ⟨E1, Fr.refl, .bl true, fun _ _ e => nomatch e⟩
      | false => exact ⟨ρ1, O1, E1, p1⟩) (tV_bndV E p)⟩
theorem ve_not (ha : VE X W a fa) : VE X W (.UnaryOp .Not a pos) (xNotV fa) := ⟨PE.imp (pe_not ha.pe) fun σ H Q ⟨ρ, O, E, p⟩ =>
  tV.mono (fun v H1 ⟨x, ρ1, O1, E1, V1, p1⟩ => by
    cases q : isBl x ρ1 with
    | none => rw [q] at p1; exact p1.elim
    | some c =>
      rw [q] at p1
      exact ⟨c, isBl_ok E1 V1 q, p1 (.bl (!c)) H1 O1 ⟨E1, Fr.refl, .bl (!c), fun _ _ e => nomatch e⟩⟩) (tV_bndV E p)⟩
def xIf (g : Ev Bool) (fa fb : Ev Val) : Ev Val := fun ρ => bnd (g ρ) fun b ρ1 => if b = true then fa ρ1 else fb ρ1
theorem ve_if {g : Ev Bool} (hc : VT X W c g) (ha : VE X W a fa) (hb : VE X W b fb) : VE X W (.IfExp c a b pos) (xIf g fa fb) := ⟨PE.imp (pe_ifExp hc.pt ha.pe hb.pe) fun σ H Q ⟨ρ, O, E, p⟩ =>
  tT.mono (fun v H1 ⟨ρ1, O1, E1, p1⟩ => by
    cases v with
    | true => exact ⟨ρ1, O1, E1, p1⟩
    | false => exact ⟨ρ1, O1, E1, p1⟩) (tT_bndV E p)⟩

/-! ### lists of values: shared data (displays), values as they are (calls) -/
def PostA (X : Cx) (W : WX) (ρ : Env) (σ : St) (H : Hp) (O : Addr → Prop) (Q : List V → Hp → Prop) : Option (R (List D)) → Prop
  | none => False
  | some (.er c) => ∀ cls d H', XR X.mg c cls d H' → FrX ρ σ H H' → W cls d σ H'
  | some (.ok ds ρ') => ∀ vs H' O', RE X.K ρ' σ H' O' → Fr ρ σ H O ρ' σ H' O' → RpAll X.K H' O' vs ds → Q vs H'
def tA (X : Cx) (W : WX) (f : Ev (List D)) : TA := fun σ H Q => ∃ ρ O, RE X.K ρ σ H O ∧ PostA X W ρ σ H O Q (f ρ)
structure VA (X : Cx) (W : WX) (es : List Expr) (f : Ev (List D)) : Prop where
  pa : PA X es (tA X W f)
  len : ∀ ρ ds ρ', f ρ = some (.ok ds ρ') → ds.length = es.length
theorem PA.imp {t t' : TA} (h : PA X es t) (hi : ∀ σ H Q, t' σ H Q → t σ H Q) : PA X es t' := ⟨fun pos pins s σ H Q I q => h.run pos pins s σ H Q I (hi σ H Q q)⟩
theorem PostA.step {ρ ρ1 : Env} {σ : St} {H H1 : Hp} {O O1 : Addr → Prop} {Q : List V → Hp → Prop} (F : Fr ρ σ H O ρ1 σ H1 O1) : ∀ {m : Option (R (List D))}, PostA X W ρ σ H O Q m → PostA X W ρ1 σ H1 O1 Q m
  | none, h => h
  | some (.er c), h => fun cls d H' x k => h cls d H' x (FrX.trans F k)
  | some (.ok r ρ'), h => fun vs H' O' E F' => h vs H' O' E (F.trans F')
def xNil : Ev (List D) := fun ρ => some (.ok [] ρ)
def xCons (fe : Ev Val) (f : Ev (List D)) : Ev (List D) := fun ρ => bnd (fe ρ) fun r ρ1 => match r with
  | .sh d => bnd (f ρ1) fun ds ρ2 => some (.ok (d :: ds) ρ2)
  | _ => none
theorem va_nil : VA X W [] xNil := ⟨PA.imp pa_nil fun σ H Q ⟨ρ, O, E, p⟩ => p [] H O E Fr.refl .nil, fun ρ ds ρ' h => by cases h; rfl⟩
theorem va_cons {g : Ev (List D)} (he : VE X W e f) (h : VA X W es g) (hs : starEach (e :: es) X.env = (false, eval e X.env) :: starEach es X.env := by rfl) : VA X W (e :: es) (xCons (xSh f) g) := by
  refine ⟨PA.imp (pa_cons (ve_sh he).pe h.pa hs) fun σ H Q ⟨ρ, O, E, p⟩ => ?_, fun ρ ds ρ' q => ?_⟩
  · refine tV.mono (fun v H1 ⟨r, ρ1, O1, E1, V1, p1⟩ => ?_) (tV_bnd (Rst := fun ρ H O m => PostA X W ρ σ H O Q m) E (fun z => z) (fun c z => z) (fun _ _ _ _ F z => z.step F) p)
    cases r with
    | sh d =>
      have p1 : PostA X W ρ1 σ H1 O1 Q (bnd (g ρ1) fun ds ρ2 => some (.ok (d :: ds) ρ2)) := p1
      refine ⟨ρ1, O1, E1, ?_⟩
      cases q : g ρ1 with
      | none => rw [q] at p1; exact p1
      | some m =>
        rw [q] at p1
        cases m with
        | er c => exact p1
        | ok ds ρ2 => exact fun vs H2 O2 E2 F2 R2 => p1 (v :: vs) H2 O2 E2 F2 (.cons (Rp.ke (F2.ke E1) V1) R2)
    | ow d => exact p1.elim
    | bw i => exact p1.elim
  · unfold xCons at q
    cases q1 : xSh f ρ with
    | none => rw [q1] at q; cases q
    | some m =>
      rw [q1] at q
      cases m with
      | er c => cases q
      | ok r ρ1 =>
        cases r with
        | sh d =>
          have q : bnd (g ρ1) (fun ds ρ2 => some (.ok (d :: ds) ρ2)) = some (.ok ds ρ') := q
          cases q2 : g ρ1 with
          | none => rw [q2] at q; cases q
          | some m =>
            rw [q2] at q
            cases m with
            | er c => cases q
            | ok ds' ρ2 =>
              cases q
              rw [List.length_cons, List.length_cons, h.len _ _ _ q2]
        | ow d => cases q
        | bw i => cases q
def xTup (f : Ev (List D)) : Ev Val := fun ρ => bnd (f ρ) fun ds ρ1 => some (.ok (.sh (.tup ds)) ρ1)
def xLst (f : Ev (List D)) : Ev Val := fun ρ => bnd (f ρ) fun ds ρ1 => some (.ok (.ow (.lst ds)) ρ1)
theorem tA_bndV {g : Ev (List D)} {k : List D → Env → Option (R Val)} {ρ : Env} {σ : St} {H : Hp} {O : Addr → Prop} {Q : VK} (E : RE X.K ρ σ H O) (h : Post X W ρ σ H O Q (bnd (g ρ) k)) :
    tA X W g σ H fun vs H1 => ∃ ds ρ1 O1, g ρ = some (.ok ds ρ1) ∧ RE X.K ρ1 σ H1 O1 ∧ RpAll X.K H1 O1 vs ds ∧ Post X W ρ1 σ H1 O1 Q (k ds ρ1) := by
  refine ⟨ρ, O, E, ?_⟩
  cases q : g ρ with
  | none => rw [q] at h; exact h
  | some m =>
    rw [q] at h
    cases m with
    | er c => exact h
    | ok r ρ1 => exact fun vs H1 O1 E1 F R => ⟨r, ρ1, O1, rfl, E1, R, Post.step F h⟩
theorem tA.mono {g : Ev (List D)} {σ : St} {H : Hp} {Q Q' : List V → Hp → Prop} (hq : ∀ v H, Q v H → Q' v H) (h : tA X W g σ H Q) : tA X W g σ H Q' := by
  obtain ⟨ρ, O, E, p⟩ := h
  refine ⟨ρ, O, E, ?_⟩
  cases q : g ρ with
  | none => rw [q] at p; exact p
  | some m =>
    rw [q] at p
    cases m with
    | er c => exact p
    | ok r ρ1 => exact fun vs H1 O1 E1 F R => hq _ _ (p vs H1 O1 E1 F R)
theorem ve_tup {g : Ev (List D)} {k : Nat} (h : VA X W es g) (hl : es.length ≤ sizeLine := by decide) : VE X W (.Tuple es k pos) (xTup g) := ⟨PE.imp (pe_tup h.pa) fun σ H Q ⟨ρ, O, E, p⟩ =>
  tA.mono (fun vs H1 ⟨ds, ρ1, O1, q, E1, R, p1⟩ => ⟨by rw [R.length, h.len _ _ _ q]; exact hl, fun t ht => p1 _ _ _ ((NP.newT ht R).post E1)⟩) (tA_bndV E p)⟩
theorem ve_lst {g : Ev (List D)} (h : VA X W es g) (hl : es.length ≤ sizeLine := by decide) : VE X W (.List es pos) (xLst g) := ⟨PE.imp (pe_lst h.pa) fun σ H Q ⟨ρ, O, E, p⟩ =>
  tA.mono (fun vs H1 ⟨ds, ρ1, O1, q, E1, R, p1⟩ => ⟨by rw [R.length, h.len _ _ _ q]; exact hl, fun t ht => p1 _ _ _ ((NP.newL ht R).post E1)⟩) (tA_bndV E p)⟩
def xDk : Ev Val := fun ρ => some (.ok (.ow (.dk [])) ρ)
def xDt : Ev Val := fun ρ => some (.ok (.ow (.dt [])) ρ)
theorem ve_dk : VE X W (.Dict [] [] pos) xDk := ⟨PE.imp pe_dnewK fun σ H Q ⟨ρ, O, E, p⟩ => fun t ht => p _ _ _ ((NP.newK (kvs := []) ht).post E)⟩
theorem ve_dt : VE X W (.Dict [] [] pos) xDt := ⟨PE.imp pe_dnewT fun σ H Q ⟨ρ, O, E, p⟩ => fun t ht => p _ _ _ ((NP.newDT (kvs := []) ht).post E)⟩

/-! arguments -/
def VRAll (K : PySem.W.Frag) (ρ : Env) (σ : St) (H : Hp) (O : Addr → Prop) : List Val → List V → Prop := Paired (VR K ρ σ H O)
def PostB (X : Cx) (W : WX) (ρ : Env) (σ : St) (H : Hp) (O : Addr → Prop) (Q : List V → Hp → Prop) : Option (R (List Val)) → Prop
  | none => False
  | some (.er c) => ∀ cls d H', XR X.mg c cls d H' → FrX ρ σ H H' → W cls d σ H'
  | some (.ok rs ρ') => ∀ vs H' O', RE X.K ρ' σ H' O' → Fr ρ σ H O ρ' σ H' O' → VRAll X.K ρ' σ H' O' rs vs → Q vs H'
def tB' (X : Cx) (W : WX) (f : Ev (List Val)) : TA := fun σ H Q => ∃ ρ O, RE X.K ρ σ H O ∧ PostB X W ρ σ H O Q (f ρ)
structure VB (X : Cx) (W : WX) (es : List Expr) (f : Ev (List Val)) : Prop where
  pa : PA X es (tB' X W f)
theorem PostB.step {ρ ρ1 : Env} {σ : St} {H H1 : Hp} {O O1 : Addr → Prop} {Q : List V → Hp → Prop} (F : Fr ρ σ H O ρ1 σ H1 O1) : ∀ {m : Option (R (List Val))}, PostB X W ρ σ H O Q m → PostB X W ρ1 σ H1 O1 Q m
  | none, h => h
  | some (.er c), h => fun cls d H' x k => h cls d H' x (FrX.trans F k)
  | some (.ok r ρ'), h => fun vs H' O' E F' => h vs H' O' E (F.trans F')
def yNil : Ev (List Val) := fun ρ => some (.ok [] ρ)
def yCons (fe : Ev Val) (f : Ev (List Val)) : Ev (List Val) := fun ρ => bnd (fe ρ) fun r ρ1 => bnd (f ρ1) fun rs ρ2 => some (.ok (r :: rs) ρ2)
theorem vb_nil : VB X W [] yNil := ⟨PA.imp pa_nil fun σ H Q ⟨ρ, O, E, p⟩ => p [] H O E Fr.refl .nil⟩
theorem vb_cons {g : Ev (List Val)} (he : VE X W e f) (h : VB X W es g) (hs : starEach (e :: es) X.env = (false, eval e X.env) :: starEach es X.env := by rfl) : VB X W (e :: es) (yCons f g) := by
  refine ⟨PA.imp (pa_cons he.pe h.pa hs) fun σ H Q ⟨ρ, O, E, p⟩ => ?_⟩
  refine tV.mono (fun v H1 ⟨r, ρ1, O1, E1, V1, p1⟩ => ?_) (tV_bnd (Rst := fun ρ H O m => PostB X W ρ σ H O Q m) E (fun z => z) (fun c z => z) (fun _ _ _ _ F z => z.step F) p)
  refine ⟨ρ1, O1, E1, ?_⟩
  cases q : g ρ1 with
  | none => rw [q] at p1; exact p1
  | some m =>
    rw [q] at p1
    cases m with
    | er c => exact p1
    | ok rs ρ2 => exact fun vs H2 O2 E2 F2 R2 => p1 (v :: vs) H2 O2 E2 F2 (.cons (V1.later E1 F2) R2)
theorem tB_bnd {α : Type} {g : Ev (List Val)} {ρ : Env} {σ : St} {H : Hp} {O : Addr → Prop} {k : List Val → Env → Option (R α)} {Rst : Env → Hp → (Addr → Prop) → Option (R α) → Prop}
    (E : RE X.K ρ σ H O) (hn : ¬ Rst ρ H O none) (he : ∀ c, Rst ρ H O (some (.er c)) → ∀ cls d H', XR X.mg c cls d H' → FrX ρ σ H H' → W cls d σ H')
    (hs : ∀ ρ1 H1 O1 m, Fr ρ σ H O ρ1 σ H1 O1 → Rst ρ H O m → Rst ρ1 H1 O1 m) (h : Rst ρ H O (bnd (g ρ) k)) :
    tB' X W g σ H fun vs H1 => ∃ rs ρ1 O1, RE X.K ρ1 σ H1 O1 ∧ VRAll X.K ρ1 σ H1 O1 rs vs ∧ Rst ρ1 H1 O1 (k rs ρ1) := by
  refine ⟨ρ, O, E, ?_⟩
  cases q : g ρ with
  | none => rw [q] at h; exact hn h
  | some m =>
    rw [q] at h
    cases m with
    | er c => exact he c h
    | ok r ρ1 => exact fun vs H1 O1 E1 F R => ⟨r, ρ1, O1, E1, R, hs _ _ _ _ F h⟩
theorem tB_bndV {g : Ev (List Val)} {k : List Val → Env → Option (R Val)} {ρ : Env} {σ : St} {H : Hp} {O : Addr → Prop} {Q : VK} (E : RE X.K ρ σ H O) (h : Post X W ρ σ H O Q (bnd (g ρ) k)) :
    tB' X W g σ H fun vs H1 => ∃ rs ρ1 O1, RE X.K ρ1 σ H1 O1 ∧ VRAll X.K ρ1 σ H1 O1 rs vs ∧ Post X W ρ1 σ H1 O1 Q (k rs ρ1) :=
  tB_bnd (Rst := fun ρ H O m => Post X W ρ σ H O Q m) E (fun z => z) (fun c z => z) (fun _ _ _ _ F z => z.step F) h
theorem tB.mono {g : Ev (List Val)} {σ : St} {H : Hp} {Q Q' : List V → Hp → Prop} (hq : ∀ v H, Q v H → Q' v H) (h : tB' X W g σ H Q) : tB' X W g σ H Q' := by
  obtain ⟨ρ, O, E, p⟩ := h
  refine ⟨ρ, O, E, ?_⟩
  cases q : g ρ with
  | none => rw [q] at p; exact p
  | some m =>
    rw [q] at p
    cases m with
    | er c => exact p
    | ok r ρ1 => exact fun vs H1 O1 E1 F R => hq _ _ (p vs H1 O1 E1 F R)
/-- pure calls -/
def rdAll (ρ : Env) : List Val → Option (List D)
  | [] => some []
  | r :: rs => (rd ρ r).bind fun d => (rdAll ρ rs).map fun ds => d :: ds
def RdAll (K : PySem.W.Frag) (H : Hp) (O : Addr → Prop) : List V → List D → Prop := Paired (Rd1 K H O)
def rDs (X : Cx) (g : List D → Option Val) : List V → Hp → VK → Prop := fun vs H Q => ∃ O ds r, RdAll X.K H O vs ds ∧ g ds = some r ∧ ∀ v H' O', NP X.K H O r v H' O' → Q v H'
theorem VRAll.rd {K : PySem.W.Frag} {ρ : Env} {σ : St} {H : Hp} {O : Addr → Prop} (E : RE K ρ σ H O) : ∀ {rs : List Val} {vs : List V} {ds : List D}, VRAll K ρ σ H O rs vs → rdAll ρ rs = some ds → RdAll K H O vs ds
  | [], _, _, .nil, e => by cases e; exact .nil
  | r :: rs, _, ds, .cons h t, e => by
    have e : ((Lf.rd ρ r).bind fun d => (rdAll ρ rs).map fun ds => d :: ds) = some ds := e
    cases q : Lf.rd ρ r with
    | none => rw [q] at e; cases e
    | some d =>
      rw [q] at e
      have e : ((rdAll ρ rs).map fun ds => d :: ds) = some ds := e
      cases q2 : rdAll ρ rs with
      | none => rw [q2] at e; cases e
      | some ds' =>
        rw [q2] at e
        cases e
        exact .cons (VR.rd E h q) (VRAll.rd E t q2)
def xPure (g : List D → Option Val) (f : Ev (List Val)) : Ev Val := fun ρ => bnd (f ρ) fun rs ρ1 => (rdAll ρ1 rs).bind fun ds => (g ds).map fun r => .ok r ρ1
theorem pure_ok {g : List D → Option Val} {h : Ev (List Val)} {σ : St} {H : Hp} {Q : VK} (p : tV X W (xPure g h) σ H Q) : tB' X W h σ H fun vs H1 => rDs X g vs H1 Q := by
  obtain ⟨ρ, O, E, p⟩ := p
  refine tB.mono (fun vs H1 ⟨rs, ρ1, O1, E1, V1, p1⟩ => ?_) (tB_bndV E p)
  cases q : rdAll ρ1 rs with
  | none => rw [q] at p1; exact p1.elim
  | some ds =>
    rw [q] at p1
    have p1 : Post X W ρ1 σ H1 O1 Q ((g ds).map fun r => .ok r ρ1) := p1
    cases q2 : g ds with
    | none => rw [q2] at p1; exact p1.elim
    | some r =>
      rw [q2] at p1
      exact ⟨O1, ds, r, V1.rd E1 q, q2, fun v H' O' n => p1 v H' O' (n.post E1)⟩
theorem ve_callB {x : Str} {id : String} {p : Pos} {g : List D → Option Val} {h : Ev (List Val)} (hc : CallR X (.builtin id) (rDs X g)) (hg : Gl X x) (hm : X.mg x = none) (hv : bootBuiltins x = some (.builtin id)) (ha : VB X W (e :: es) h) (hn : x ≠ "__name__" := by decide) (hdb : (x == ("__debug__" : Str)) = false := by decide)
    (he : starEach (e :: es) X.env = (false, eval e X.env) :: starEach es X.env := by rfl) (hpl : (backTo pos (starEach es X.env)).any (·.1) = false := by rfl) : VE X W (.Call (.Name x p) (e :: es) [] pos) (xPure g h) :=
  ⟨PE.imp (pe_callB hc hg hm hv ha.pa hn hdb he hpl) fun _ _ _ => pure_ok⟩
theorem ve_callTy {x : Str} {T : String} {p : Pos} {g : List D → Option Val} {h : Ev (List Val)} (hc : CallR X (.type T) (rDs X g)) (hg : Gl X x) (hm : X.mg x = none) (hv : bootBuiltins x = some (.type T)) (ha : VB X W (e :: es) h) (hn : x ≠ "__name__" := by decide) (hdb : (x == ("__debug__" : Str)) = false := by decide)
    (he : starEach (e :: es) X.env = (false, eval e X.env) :: starEach es X.env := by rfl) (hpl : (backTo pos (starEach es X.env)).any (·.1) = false := by rfl) : VE X W (.Call (.Name x p) (e :: es) [] pos) (xPure g h) :=
  ⟨PE.imp (pe_callTy hc hg hm hv ha.pa hn hdb he hpl) fun _ _ _ => pure_ok⟩
end
end Lf

set_option Elab.async false
set_option linter.all false
set_option maxRecDepth 100000
/-! Lf, part D: statements, defs, calls of defs. -/
namespace Lf
open PySem PySem.Spec L2

/-! ### what a def says -/
inductive RR where
  | ok (r : Val) (io : D)
  | er (c : Exc)
abbrev Fn := List D → Option RR
structure CP (K : PySem.W.Frag) (io : Addr → Prop) (H : Hp) (O : Addr → Prop) (r : Val) (v : V) (H' : Hp) (O' : Addr → Prop) : Prop where
  kp : ∀ b o, H b = some o → NT o → ¬ io b → H' b = some o
  al : ∀ b o, H b = some o → ∃ o', H' b = some o'
  sk : ∀ b, O' b → O b ∨ H b = none
  st : ∀ b o, H b = some o → O b → O' b
  vr : match r with
    | .sh d => Rp K H' O' v d
    | .ow d => ∃ a, v = .ref a ∧ H a = none ∧ O' a ∧ Ob K H' O' a d
    | .bw _ => False
def SpR (K : PySem.W.Frag) (mg : Str → Option Value) (H : Hp) (O : Addr → Prop) (Q : VK) (E : XK) : Option RR → Prop
  | none => False
  | some (.er c) => ∀ cls d H', XR mg c cls d H' → (∀ b o, H b = some o → NT o → H' b = some o) → E cls d H'
  | some (.ok r _) => ∀ v H' O', CP K (fun _ => False) H O r v H' O' → Q v H'
def spV (K : PySem.W.Frag) (mg : Str → Option Value) (n : Nat) (φ : Fn) : Sp := fun vs H Q E => vs.length = n ∧ ∃ O ds, RpAll K H O vs ds ∧ SpR K mg H O Q E (φ ds)
def SpRio (K : PySem.W.Frag) (mg : Str → Option Value) (a : Addr) (H : Hp) (O : Addr → Prop) (Q : VK) (E : XK) : Option RR → Prop
  | none => False
  | some (.er c) => ∀ cls d H', XR mg c cls d H' → (∀ b o, H b = some o → NT o → b ≠ a → H' b = some o) → E cls d H'
  | some (.ok r d1) => ∀ v H' O', CP K (fun b => b = a) H O r v H' O' → O' a → Ob K H' O' a d1 → Q v H'
/-- the first argument, a list, is changed -/
def spIo (K : PySem.W.Frag) (mg : Str → Option Value) (n : Nat) (φ : Fn) : Sp := fun vs H Q E => vs.length = n ∧ ∃ O a d0 vs' ds, vs = .ref a :: vs' ∧ O a ∧ Ob K H O a d0 ∧ RpAll K H O vs' ds ∧ SpRio K mg a H O Q E (φ (d0 :: ds))

/-! ### calls -/
def isBw : Val → Bool
  | .bw _ => true
  | _ => false
def argD (ρ : Env) : List Val → Option (List D)
  | [] => some []
  | .sh d :: rs => (argD ρ rs).map fun ds => d :: ds
  | .ow _ :: _ => none
  | .bw i :: rs => (rd ρ (.bw i)).bind fun d => (argD ρ rs).map fun ds => d :: ds
def immEl : D → Bool
  | .lst ds => immAll ds
  | .dk _ => true
  | .dt _ => true
  | _ => false
def okRes (b : Bool) : Val → Bool
  | .sh d => !b || imm d
  | .ow d => !b || immEl d
  | .bw _ => false
/-- an owned value is handed on as it is, to be read -/
def xLn (f : Ev Val) : Ev Val := fun ρ => bnd (f ρ) fun r ρ1 => match r with
  | .ow d => some (.ok (.sh d) ρ1)
  | r => some (.ok r ρ1)
def xCall (φ : Fn) (f : Ev (List Val)) : Ev Val := fun ρ => bnd (f ρ) fun rs ρ1 => (argD ρ1 rs).bind fun ds => match φ ds with
  | none => none
  | some (.er c) => some (.er c)
  | some (.ok r _) => if okRes (rs.any isBw) r = true then some (.ok r ρ1) else none
def xCallIo (φ : Fn) (i : Nat) (f : Ev (List Val)) : Ev Val := fun ρ => bnd (f ρ) fun rs ρ1 => match rs with
  | .bw j :: rs => if j = i then (match ρ1[i]? with
    | some (Slot.ow d0) => if rs.all (fun r => match r with | .bw k => decide (k ≠ i) | _ => true) = true then (argD ρ1 rs).bind fun ds => match φ (d0 :: ds) with
      | none => none
      | some (.er c) => some (.er c)
      | some (.ok r d1) => if (okRes (rs.any isBw) r && okRes (rs.any isBw) (.ow d1)) = true then some (.ok r (ρ1.set i (.ow d1))) else none
      else none
    | _ => none) else none
  | _ => none
section
variable {X : Cx} {W : WX} {pos : Pos} {e : Expr} {es : List Expr} {f : Ev Val}
theorem ve_ln (h : VE X W e f) : VE X W e (xLn f) := h.imp fun σ H Q ⟨ρ, O, E, p⟩ => ⟨ρ, O, E, by
  unfold xLn at p
  cases q : f ρ with
  | none => rw [q] at p; exact p
  | some m =>
    rw [q] at p
    cases m with
    | er c => exact p
    | ok r ρ1 =>
      intro v H1 O1 P
      cases r with
      | sh d => exact p v H1 O1 P
      | bw i => exact p v H1 O1 P
      | ow d =>
        obtain ⟨O2, P2⟩ := share_ok (d := d) P rfl
        exact p v H1 O2 P2⟩
variable {ρ : Env} {σ : St} {H : Hp} {O : Addr → Prop} {Q : VK}
/-- O without what is lent -/
def lentO (O : Addr → Prop) (σ : St) (rs : List Val) : Addr → Prop := fun b => O b ∧ ¬ ∃ i, Val.bw i ∈ rs ∧ σ[i]? = some (some (V.ref b))
theorem ObR.rp {K : PySem.W.Frag} {O' : Addr → Prop} {a : Addr} (n : ¬ O' a) (k : Ke H H O O') : ∀ {d : D}, ObR K H O a d → Rp K H O' (.ref a) d
  | .lst _, ⟨xs, h, r⟩ => .lst h n (r.ke k)
  | .dk _, h => .dk (show Rd H a _ from h) n
  | .dt _, h => .dt (show Rd H a _ from h) n
  | .non, h => h.elim
  | .bl _, h => h.elim
  | .int _, h => h.elim
  | .str _, h => h.elim
  | .tup _, h => h.elim
theorem argD_ok {K : PySem.W.Frag} {rs₀ : List Val} (E : RE K ρ σ H O) : ∀ {rs : List Val} {vs : List V} {ds : List D}, (∀ r ∈ rs, r ∈ rs₀) → VRAll K ρ σ H O rs vs → argD ρ rs = some ds → RpAll K H (lentO O σ rs₀) vs ds := by
  have k : Ke H H O (lentO O σ rs₀) := ⟨fun _ _ h _ _ => h, fun b z => .inl z.1⟩
  intro rs
  induction rs with
  | nil => intro vs ds _ h e; cases h; cases e; exact .nil
  | cons r rs ih =>
    intro vs ds hm h e
    cases h with
    | cons h t =>
      cases r with
      | sh d =>
        have e : ((argD ρ rs).map fun ds => d :: ds) = some ds := e
        cases q : argD ρ rs with
        | none => rw [q] at e; cases e
        | some ds' =>
          rw [q] at e; cases e
          exact .cons (Rp.ke k h) (ih (fun r hr => hm r (List.mem_cons_of_mem _ hr)) t q)
      | ow d => cases e
      | bw i =>
        have e : ((rd ρ (.bw i)).bind fun d => (argD ρ rs).map fun ds => d :: ds) = some ds := e
        cases q1 : rd ρ (.bw i) with
        | none => rw [q1] at e; cases e
        | some d =>
          rw [q1] at e
          have e : ((argD ρ rs).map fun ds => d :: ds) = some ds := e
          cases q : argD ρ rs with
          | none => rw [q] at e; cases e
          | some ds' =>
            rw [q] at e; cases e
            refine .cons ?_ (ih (fun r hr => hm r (List.mem_cons_of_mem _ hr)) t q)
            -- the lent object is told by its slot
            have hb : Val.bw i ∈ rs₀ := hm _ List.mem_cons_self
            have hs : ∃ a, σ[i]? = some (some (V.ref a)) ∧ ObR K H O a d := by
              unfold rd at q1
              dsimp only at q1
              split at q1
              · cases q1
                obtain ⟨a, e1, _, z⟩ := E.ow i _ ‹_›
                exact ⟨a, e1, z.r⟩
              · cases q1
                obtain ⟨a, e1, _, z⟩ := E.lk i _ ‹_›
                exact ⟨a, e1, z⟩
              · cases q1
            obtain ⟨a, e1, z⟩ := hs
            have h' : σ[i]? = some (some _) := h
            rw [e1] at h'
            cases h'
            exact z.rp (fun w => w.2 ⟨i, hb, e1⟩) k
theorem argD_bw {K : PySem.W.Frag} (E : RE K ρ σ H O) : ∀ {rs : List Val} {ds : List D} {i : Nat}, argD ρ rs = some ds → Val.bw i ∈ rs → ∀ b, σ[i]? = some (some (V.ref b)) → OL ρ σ i b := by
  intro rs
  induction rs with
  | nil => intro ds i _ h; cases h
  | cons r rs ih =>
    intro ds i e hm b hb
    cases r with
    | sh d =>
      have e : ((argD ρ rs).map fun ds => d :: ds) = some ds := e
      cases q : argD ρ rs with
      | none => rw [q] at e; cases e
      | some ds' =>
        rcases List.mem_cons.mp hm with z | z
        · cases z
        · exact ih q z b hb
    | ow d => cases e
    | bw j =>
      have e : ((rd ρ (.bw j)).bind fun d => (argD ρ rs).map fun ds => d :: ds) = some ds := e
      cases q1 : rd ρ (.bw j) with
      | none => rw [q1] at e; cases e
      | some d =>
        rw [q1] at e
        have e : ((argD ρ rs).map fun ds => d :: ds) = some ds := e
        cases q : argD ρ rs with
        | none => rw [q] at e; cases e
        | some ds' =>
          rcases List.mem_cons.mp hm with z | z
          · cases z
            unfold rd at q1
            dsimp only at q1
            split at q1
            · rename_i d' hh
              exact ⟨⟨d', .inl hh⟩, hb⟩
            · rename_i d' hh
              exact ⟨⟨d', .inr hh⟩, hb⟩
            · cases q1
          · exact ih q z b hb
theorem OL.or {i : Nat} {b : Addr} (h : OL ρ σ i b) : Ow ρ σ b ∨ Lk ρ σ b := by
  obtain ⟨⟨d, h | h⟩, e⟩ := h
  · exact .inl ⟨i, d, h, e⟩
  · exact .inr ⟨i, d, h, e⟩
theorem RE.fr {K : PySem.W.Frag} {H' : Hp} {O' : Addr → Prop} (E : RE K ρ σ H O) (k : Ke H H' O O') (st : ∀ b, Ow ρ σ b ∨ Lk ρ σ b → O' b ∧ ∀ o, H b = some o → NT o → H' b = some o) : RE K ρ σ H' O' := by
  refine ⟨E.len, fun i d h => ?_, fun i d h => ?_, fun i d h => ?_, E.inj⟩
  · obtain ⟨v, e, q⟩ := E.sh i d h
    exact ⟨v, e, q.ke k⟩
  · obtain ⟨a, e, o, q⟩ := E.ow i d h
    have z := st a (.inl ⟨i, d, h, e⟩)
    exact ⟨a, e, z.1, q.ke k z.2⟩
  · obtain ⟨a, e, o, q⟩ := E.lk i d h
    have z := st a (.inr ⟨i, d, h, e⟩)
    exact ⟨a, e, z.1, q.ke k z.2⟩
theorem Ob.imm {K : PySem.W.Frag} {O' : Addr → Prop} {a : Addr} : ∀ {d : D}, immEl d = true → Ob K H O a d → Ob K H O' a d
  | .lst _, e, ⟨xs, h, r⟩ => ⟨xs, h, r.imm e⟩
  | .dk _, _, h => h
  | .dt _, _, h => h
  | .non, _, h => h.elim
  | .bl _, _, h => h.elim
  | .int _, _, h => h.elim
  | .str _, _, h => h.elim
  | .tup _, _, h => h.elim
theorem nobw {rs : List Val} (h : rs.any isBw = false) : ∀ i, Val.bw i ∉ rs := fun i z => by
  rw [List.any_eq_false] at h
  exact h _ z rfl
/-- behind a call: what the callee said, in the caller's words -/
theorem back {K : PySem.W.Frag} {rs : List Val} {r : Val} {v : V} {H' : Hp} {O' : Addr → Prop} {io : Addr → Prop} {ρ1 : Env} (E : RE K ρ σ H O) (hb : ∀ i, Val.bw i ∈ rs → ∀ b, σ[i]? = some (some (V.ref b)) → Ow ρ σ b ∨ Lk ρ σ b)
    (ok : okRes (rs.any isBw) r = true) (P : CP K io H (lentO O σ rs) r v H' O') (hio : ∀ b, io b → Ow ρ σ b)
    (E1 : ∀ O'', Ke H H' O O'' → (∀ b, Ow ρ σ b ∨ Lk ρ σ b → O'' b) → (∀ b, O' b → O'' b) → (∀ b, O'' b → O' b ∨ Ow ρ σ b ∨ Lk ρ σ b) → RE K ρ1 σ H' O'') (hO : ∀ b, Ow ρ1 σ b → Ow ρ σ b) (hL : ∀ i b, LkAt ρ1 σ i b → LkAt ρ σ i b) (hZ : ∀ b, OL ρ1 σ 0 b → OL ρ σ 0 b) :
    EPost K ρ σ H O r ρ1 v H' fun b => O' b ∨ Ow ρ σ b ∨ Lk ρ σ b := by
  have ol : ∀ b, Ow ρ σ b ∨ Lk ρ σ b → O b ∧ (∃ o, H b = some o) ∧ ∀ xs, H b ≠ some (.tup xs) := fun b z => by
    rcases z with z | z
    · obtain ⟨i, z⟩ := z.ol
      exact E.ol z
    · obtain ⟨i, z⟩ := z.ol
      exact E.ol z
  have sk : ∀ b, (O' b ∨ Ow ρ σ b ∨ Lk ρ σ b) → O b ∨ H b = none := fun b z => by
    rcases z with z | z
    · rcases P.sk b z with z | z
      · exact .inl z.1
      · exact .inr z
    · exact .inl (ol b z).1
  have k : Ke H H' O fun b => O' b ∨ Ow ρ σ b ∨ Lk ρ σ b := ⟨fun b o h t n => P.kp b o h t fun z => by
    obtain ⟨w1, _, w2⟩ := ol b (.inl (hio b z))
    rcases n with n | ⟨xs, n⟩
    · exact n w1
    · rw [n] at h; exact w2 xs h, sk⟩
  refine ⟨E1 _ k (fun b z => .inr z) (fun b z => .inl z) (fun b z => z), ⟨fun b o h t n => P.kp b o h t fun z => n (hio b z), P.al, sk, fun b o h w n => ?_, fun b z => .inl (hO b z), hL, hZ⟩, ?_, fun d a e1 e2 => ?_⟩
  · by_cases hl : ∃ i, Val.bw i ∈ rs ∧ σ[i]? = some (some (V.ref b))
    · obtain ⟨i, h1, h2⟩ := hl
      exact .inr (hb i h1 b h2)
    · exact .inl (P.st b o h ⟨w, hl⟩)
  · -- what is handed back
    have k2 : rs.any isBw = false → Ke H' H' O' fun b => O' b ∨ Ow ρ σ b ∨ Lk ρ σ b := fun n => ⟨fun _ _ h _ _ => h, fun b z => by
      rcases z with z | z
      · exact .inl z
      · obtain ⟨w, ⟨o, ho⟩, _⟩ := ol b z
        exact .inl (P.st b o ho ⟨w, fun ⟨i, h, _⟩ => nobw n i h⟩)⟩
    have q := P.vr
    cases r with
    | bw i => exact q.elim
    | sh d =>
      have ok : (!(rs.any isBw) || imm d) = true := ok
      cases n : rs.any isBw with
      | true => rw [n] at ok; exact Rp.imm (by simpa using ok) q
      | false => exact Rp.ke (k2 n) q
    | ow d =>
      have ok : (!(rs.any isBw) || immEl d) = true := ok
      obtain ⟨a, e, h0, o, z⟩ := q
      have fresh : ∀ b, Ow ρ σ b ∨ Lk ρ σ b → b ≠ a := fun b w e => by
        obtain ⟨_, ⟨o, ho⟩, _⟩ := ol b w
        rw [e, h0] at ho; cases ho
      refine ⟨a, e, .inl o, fun w => fresh a (.inl (hO a w)) rfl, fun ⟨i, d, h, e⟩ => fresh a (.inr (let ⟨⟨d', h'⟩, e'⟩ := hL i a ⟨⟨d, h⟩, e⟩; ⟨i, d', h', e'⟩)) rfl, ?_⟩
      cases n : rs.any isBw with
      | true => rw [n] at ok; exact Ob.imm (by simpa using ok) z
      | false => exact z.ke (k2 n) fun _ h _ => h
  · subst e1
    obtain ⟨b, e, h0, _⟩ := P.vr
    rw [e2] at e; cases e
    exact .inl h0
theorem call_ok {φ : Fn} {rs : List Val} {vs : List V} {n : Nat} (E : RE X.K ρ σ H O) (hv : VRAll X.K ρ σ H O rs vs) (hn : vs.length = n)
    (p : Post X W ρ σ H O Q ((argD ρ rs).bind fun ds => match φ ds with
      | none => none
      | some (.er c) => some (.er c)
      | some (.ok r _) => if okRes (rs.any isBw) r = true then some (.ok r ρ) else none)) : spV X.K X.mg n φ vs H Q (WE W σ) := by
  cases q : argD ρ rs with
  | none => rw [q] at p; exact p.elim
  | some ds =>
    rw [q] at p
    refine ⟨hn, lentO O σ rs, ds, argD_ok E (fun _ h => h) hv q, ?_⟩
    have p : Post X W ρ σ H O Q (match φ ds with
      | none => none
      | some (.er c) => some (.er c)
      | some (.ok r _) => if okRes (rs.any isBw) r = true then some (.ok r ρ) else none) := p
    cases q2 : φ ds with
    | none => rw [q2] at p; exact p.elim
    | some m =>
      rw [q2] at p
      cases m with
      | er c => exact fun cls d H' x k => p cls d H' x fun b o h t _ => k b o h t
      | ok r io =>
        have p : Post X W ρ σ H O Q (if okRes (rs.any isBw) r = true then some (.ok r ρ) else none) := p
        intro v H' O' P
        by_cases ok : okRes (rs.any isBw) r = true
        · rw [if_pos ok] at p
          exact p v H' _ (back E (fun i h b hb => (argD_bw E q h b hb).or) ok P (fun _ z => z.elim) (fun O'' k h1 _ _ => E.fr k fun b z => ⟨h1 b z, fun o h t => P.kp b o h t fun z => z⟩) (fun _ z => z) (fun _ _ z => z) fun _ z => z)
        · rw [if_neg ok] at p; exact p.elim
theorem VRAll.len {K : PySem.W.Frag} {rs : List Val} {vs : List V} (h : VRAll K ρ σ H O rs vs) : rs.length = vs.length := Paired.length h
theorem ve_call {x : Str} {g : Ev (List Val)} {φ : Fn} {k n : Nat} {fa : Addr} {fd : FuncData} {ps : List Str} {p : Pos} (F : FnOk X.prog X.w X.K X.mg X.base (L2.CX X.prog X.w) k fa fd ps (spV X.K X.mg n φ)) (hr : Room k X.A) (hg : Gl X x) (hm : X.mg x = some (.ref fa)) (hk : PySem.W.keepIn X.K (.ref fa) = true) (hb : Binds X.K fd ps [])
    (tk : Takes X W) (ha : VB X W (e :: es) g) (hl : ∀ ρ rs ρ', g ρ = some (.ok rs ρ') → rs.length = n) (hdb : (x == ("__debug__" : Str)) = false := by decide) (he : starEach (e :: es) X.env = (false, eval e X.env) :: starEach es X.env := by rfl) (hpl : (backTo pos (starEach es X.env)).any (·.1) = false := by rfl) :
    VE X W (.Call (.Name x p) (e :: es) [] pos) (xCall φ g) := ⟨PE.imp (pe_callS F hr hg hm hk hb (fun σ => passAt tk σ) ha.pa hdb he hpl) fun σ H Q ⟨ρ, O, E, p⟩ => by
  show tB' X W g σ H fun vs H1 => spV X.K X.mg n φ vs H1 Q (WE W σ)
  refine ⟨ρ, O, E, ?_⟩
  unfold xCall at p
  cases q : g ρ with
  | none => rw [q] at p; exact p
  | some m =>
    rw [q] at p
    cases m with
    | er c => exact p
    | ok rs ρ1 => exact fun vs H1 O1 E1 F1 V1 => call_ok E1 V1 (by rw [← V1.len]; exact hl _ _ _ q) (Post.step F1 p)⟩
/-- no arguments -/
def xCall0 (φ : Fn) : Ev Val := xCall φ yNil
theorem pe_call0S {x : Str} {CX : CXT} {k : Nat} {fa : Addr} {fd : FuncData} {ps : List Str} {sp : Sp} {Ee : St → XK} {p : Pos} (F : FnOk X.prog X.w X.K X.mg X.base CX k fa fd ps sp) (hr : Room k X.A) (hg : Gl X x) (hm : X.mg x = some (.ref fa)) (hk : PySem.W.keepIn X.K (.ref fa) = true) (hb : Binds X.K fd ps []) (hx : ∀ σ, PassesAt CX X σ (Ee σ))
    (hdb : (x == ("__debug__" : Str)) = false := by decide) : PE X (.Call (.Name x p) [] [] pos) (fun σ H Q => sp [] H Q (Ee σ)) := by
  refine ⟨fun pins s σ H Q I h => ?_⟩
  refine wpAny_Call_Name_kw (ld_glob I hg hm ?_ hdb)
  exact PySem.W.callWith_K0 I.kIn hk (run_fnS (us := []) F hr hb (hx σ) I .nil h)
theorem ve_call0 {x : Str} {φ : Fn} {k : Nat} {fa : Addr} {fd : FuncData} {ps : List Str} {p : Pos} (F : FnOk X.prog X.w X.K X.mg X.base (L2.CX X.prog X.w) k fa fd ps (spV X.K X.mg 0 φ)) (hr : Room k X.A) (hg : Gl X x) (hm : X.mg x = some (.ref fa)) (hk : PySem.W.keepIn X.K (.ref fa) = true) (hb : Binds X.K fd ps [])
    (tk : Takes X W) (hdb : (x == ("__debug__" : Str)) = false := by decide) : VE X W (.Call (.Name x p) [] [] pos) (xCall0 φ) := ⟨PE.imp (pe_call0S F hr hg hm hk hb (fun σ => passAt tk σ) hdb) fun σ H Q ⟨ρ, O, E, p⟩ => call_ok E (rs := []) .nil rfl p⟩
theorem set_slot {i j : Nat} {x y : Slot} (h : (ρ.set i x)[j]? = some y) : (j = i ∧ y = x) ∨ (j ≠ i ∧ ρ[j]? = some y) := get_set h
theorem callIo_ok {φ : Fn} {rs : List Val} {v0 : V} {vs : List V} {n i : Nat} {d0 : D} (E : RE X.K ρ σ H O) (h0 : σ[i]? = some (some v0)) (hi : ρ[i]? = some (Slot.ow d0)) (hall : rs.all (fun r => match r with | .bw k => decide (k ≠ i) | _ => true) = true) (hv : VRAll X.K ρ σ H O rs vs) (hn : (v0 :: vs).length = n)
    (p : Post X W ρ σ H O Q ((argD ρ rs).bind fun ds => match φ (d0 :: ds) with
      | none => none
      | some (.er c) => some (.er c)
      | some (.ok r d1) => if (okRes (rs.any isBw) r && okRes (rs.any isBw) (.ow d1)) = true then some (.ok r (ρ.set i (.ow d1))) else none)) : spIo X.K X.mg n φ (v0 :: vs) H Q (WE W σ) := by
  obtain ⟨a, e1, oa, ob⟩ := E.ow i _ hi
  rw [h0] at e1; cases e1
  cases q : argD ρ rs with
  | none => rw [q] at p; exact p.elim
  | some ds =>
    rw [q] at p
    have me : OL ρ σ i a := ⟨⟨_, .inl hi⟩, h0⟩
    have nl : lentO O σ rs a := ⟨oa, fun ⟨j, h1, h2⟩ => by
      have := E.inj j i a (argD_bw E q h1 a h2) me
      subst this
      have := List.all_eq_true.mp hall _ h1
      simp at this⟩
    have kl : Ke H H O (lentO O σ rs) := ⟨fun _ _ h _ _ => h, fun b z => .inl z.1⟩
    refine ⟨hn, lentO O σ rs, a, d0, vs, ds, rfl, nl, ob.ke kl fun _ h _ => h, argD_ok E (fun _ h => h) hv q, ?_⟩
    have p : Post X W ρ σ H O Q (match φ (d0 :: ds) with
      | none => none
      | some (.er c) => some (.er c)
      | some (.ok r d1) => if (okRes (rs.any isBw) r && okRes (rs.any isBw) (.ow d1)) = true then some (.ok r (ρ.set i (.ow d1))) else none) := p
    have owa : Ow ρ σ a := ⟨i, _, hi, h0⟩
    cases q2 : φ (d0 :: ds) with
    | none => rw [q2] at p; exact p.elim
    | some m =>
      rw [q2] at p
      cases m with
      | er c => exact fun cls d H' x k => p cls d H' x fun b o h t n => k b o h t fun z => n (by rw [z]; exact owa)
      | ok r d1 =>
        have p : Post X W ρ σ H O Q (if (okRes (rs.any isBw) r && okRes (rs.any isBw) (.ow d1)) = true then some (.ok r (ρ.set i (.ow d1))) else none) := p
        intro v H' O' P oa' ob'
        by_cases ok : (okRes (rs.any isBw) r && okRes (rs.any isBw) (.ow d1)) = true
        · rw [if_pos ok] at p
          obtain ⟨ok1, ok2⟩ := Bool.and_eq_true_iff.mp ok
          have ow1 : ∀ b, Ow (ρ.set i (.ow d1)) σ b → Ow ρ σ b := fun b ⟨j, d, z1, z2⟩ => by
            rcases set_slot z1 with ⟨z, _⟩ | ⟨_, z⟩
            · subst z; exact ⟨j, d0, hi, z2⟩
            · exact ⟨j, d, z, z2⟩
          have lk1 : ∀ j b, LkAt (ρ.set i (.ow d1)) σ j b → LkAt ρ σ j b := fun j b ⟨⟨d, z1⟩, z2⟩ => by
            rcases set_slot z1 with ⟨_, z⟩ | ⟨_, z⟩
            · cases z
            · exact ⟨⟨d, z⟩, z2⟩
          have ol1 : ∀ j b, OL (ρ.set i (.ow d1)) σ j b → OL ρ σ j b := fun j b ⟨⟨d, z1⟩, z2⟩ => by
            rcases z1 with z1 | z1
            · rcases set_slot z1 with ⟨z, _⟩ | ⟨_, z⟩
              · subst z; exact ⟨⟨d0, .inl hi⟩, z2⟩
              · exact ⟨⟨d, .inl z⟩, z2⟩
            · rcases set_slot z1 with ⟨_, z⟩ | ⟨_, z⟩
              · cases z
              · exact ⟨⟨d, .inr z⟩, z2⟩
          refine p v H' _ (back E (fun i h b hb => (argD_bw E q h b hb).or) ok1 P (fun b z => by rw [z]; exact owa) (fun O'' k h1 h2 h3 => ?_) ow1 lk1 fun b z => ol1 0 b z)
          refine ⟨by rw [List.length_set]; exact E.len, fun j d z => ?_, fun j d z => ?_, fun j d z => ?_, fun j l b z1 z2 => E.inj j l b (ol1 j b z1) (ol1 l b z2)⟩
          · rcases set_slot z with ⟨_, z⟩ | ⟨_, z⟩
            · cases z
            · obtain ⟨v, e, q⟩ := E.sh j d z
              exact ⟨v, e, q.ke k⟩
          · rcases set_slot z with ⟨w, w'⟩ | ⟨ne, z⟩
            · cases w'
              subst w
              refine ⟨a, h0, h1 a (.inl owa), ?_⟩
              have ok2 : (!(rs.any isBw) || immEl d1) = true := ok2
              cases n : rs.any isBw with
              | true => rw [n] at ok2; exact Ob.imm (by simpa using ok2) ob'
              | false =>
                refine ob'.ke (O' := O'') ⟨fun _ _ h _ _ => h, fun b z => ?_⟩ fun _ h _ => h
                rcases h3 b z with z | z
                · exact .inl z
                · have z : O b ∧ ∃ o, H b = some o := by
                    rcases z with z | z
                    · obtain ⟨i, z⟩ := z.ol
                      exact ⟨(E.ol z).1, (E.ol z).2.1⟩
                    · obtain ⟨i, z⟩ := z.ol
                      exact ⟨(E.ol z).1, (E.ol z).2.1⟩
                  obtain ⟨w, o, ho⟩ := z
                  exact .inl (P.st b o ho ⟨w, fun ⟨i, h, _⟩ => nobw n i h⟩)
            · obtain ⟨b, e, o, q⟩ := E.ow j d z
              have nb : b ≠ a := fun e' => by
                subst e'
                exact ne (E.inj j i b ⟨⟨d, .inl z⟩, e⟩ me)
              exact ⟨b, e, h1 b (.inl ⟨j, d, z, e⟩), q.ke k fun o' h t => P.kp b o' h t nb⟩
          · rcases set_slot z with ⟨_, z⟩ | ⟨ne, z⟩
            · cases z
            · obtain ⟨b, e, o, q⟩ := E.lk j d z
              have nb : b ≠ a := fun e' => by
                subst e'
                exact ne (E.inj j i b ⟨⟨d, .inr z⟩, e⟩ me)
              exact ⟨b, e, h1 b (.inr ⟨j, d, z, e⟩), q.ke k fun o' h t => P.kp b o' h t nb⟩
        · rw [if_neg ok] at p; exact p.elim
theorem ve_callIo {x : Str} {g : Ev (List Val)} {φ : Fn} {k n i : Nat} {fa : Addr} {fd : FuncData} {ps : List Str} {p : Pos} (F : FnOk X.prog X.w X.K X.mg X.base (L2.CX X.prog X.w) k fa fd ps (spIo X.K X.mg n φ)) (hr : Room k X.A) (hg : Gl X x) (hm : X.mg x = some (.ref fa)) (hk : PySem.W.keepIn X.K (.ref fa) = true) (hb : Binds X.K fd ps [])
    (tk : Takes X W) (ha : VB X W (e :: es) g) (hl : ∀ ρ rs ρ', g ρ = some (.ok rs ρ') → rs.length = n) (hdb : (x == ("__debug__" : Str)) = false := by decide) (he : starEach (e :: es) X.env = (false, eval e X.env) :: starEach es X.env := by rfl) (hpl : (backTo pos (starEach es X.env)).any (·.1) = false := by rfl) :
    VE X W (.Call (.Name x p) (e :: es) [] pos) (xCallIo φ i g) := ⟨PE.imp (pe_callS F hr hg hm hk hb (fun σ => passAt tk σ) ha.pa hdb he hpl) fun σ H Q ⟨ρ, O, E, p⟩ => by
  show tB' X W g σ H fun vs H1 => spIo X.K X.mg n φ vs H1 Q (WE W σ)
  refine ⟨ρ, O, E, ?_⟩
  unfold xCallIo at p
  cases q : g ρ with
  | none => rw [q] at p; exact p
  | some m =>
    rw [q] at p
    cases m with
    | er c => exact p
    | ok rs ρ1 =>
      intro vs H1 O1 E1 F1 V1
      have hn := hl _ _ _ q
      have p := Post.step F1 p
      cases rs with
      | nil => exact p.elim
      | cons r0 rs =>
        cases r0 with
        | sh d => exact p.elim
        | ow d => exact p.elim
        | bw j =>
          have p : Post X W ρ1 σ H1 O1 Q (if j = i then (match ρ1[i]? with
            | some (Slot.ow d0) => if rs.all (fun r => match r with | .bw k => decide (k ≠ i) | _ => true) = true then (argD ρ1 rs).bind fun ds => match φ (d0 :: ds) with
              | none => none
              | some (.er c) => some (.er c)
              | some (.ok r d1) => if (okRes (rs.any isBw) r && okRes (rs.any isBw) (.ow d1)) = true then some (.ok r (ρ1.set i (.ow d1))) else none
              else none
            | _ => none) else none) := p
          by_cases hj : j = i
          · rw [if_pos hj] at p
            subst hj
            cases V1 with
            | cons v1 vt =>
              cases hi : ρ1[j]? with
              | none => rw [hi] at p; exact p.elim
              | some sl =>
                rw [hi] at p
                cases sl with
                | no => exact p.elim
                | sh d => exact p.elim
                | lk d => exact p.elim
                | ow d0 =>
                  by_cases hall : rs.all (fun r => match r with | .bw k => decide (k ≠ j) | _ => true) = true
                  · have p : Post X W ρ1 σ H1 O1 Q (if rs.all (fun r => match r with | .bw k => decide (k ≠ j) | _ => true) = true then (argD ρ1 rs).bind fun ds => match φ (d0 :: ds) with
                      | none => none
                      | some (.er c) => some (.er c)
                      | some (.ok r d1) => if (okRes (rs.any isBw) r && okRes (rs.any isBw) (.ow d1)) = true then some (.ok r (ρ1.set j (.ow d1))) else none
                      else none) := p
                    rw [if_pos hall] at p
                    exact callIo_ok E1 v1 hi hall vt (by rw [List.length_cons, ← VRAll.len vt]; exact hn) p
                  · have p : Post X W ρ1 σ H1 O1 Q (if rs.all (fun r => match r with | .bw k => decide (k ≠ j) | _ => true) = true then (argD ρ1 rs).bind fun ds => match φ (d0 :: ds) with
                      | none => none
                      | some (.er c) => some (.er c)
                      | some (.ok r d1) => if (okRes (rs.any isBw) r && okRes (rs.any isBw) (.ow d1)) = true then some (.ok r (ρ1.set j (.ow d1))) else none
                      else none) := p
                    rw [if_neg hall] at p; exact p.elim
          · rw [if_neg hj] at p; exact p.elim⟩
/-- the length of written arguments -/
def LenIs (n : Nat) (g : Ev (List Val)) : Prop := ∀ ρ rs ρ', g ρ = some (.ok rs ρ') → rs.length = n
theorem len_nil : LenIs 0 yNil := fun ρ rs ρ' h => by cases h; rfl
theorem len_cons {n : Nat} {f : Ev Val} {g : Ev (List Val)} (h : LenIs n g) : LenIs (n + 1) (yCons f g) := fun ρ rs ρ' q => by
  unfold yCons at q
  cases q1 : f ρ with
  | none => rw [q1] at q; cases q
  | some m =>
    rw [q1] at q
    cases m with
    | er c => cases q
    | ok r ρ1 =>
      have q : bnd (g ρ1) (fun rs ρ2 => some (.ok (r :: rs) ρ2)) = some (.ok rs ρ') := q
      cases q2 : g ρ1 with
      | none => rw [q2] at q; cases q
      | some m =>
        rw [q2] at q
        cases m with
        | er c => cases q
        | ok rs' ρ2 =>
          cases q
          rw [List.length_cons, h _ _ _ q2]
end
end Lf

set_option Elab.async false
set_option linter.all false
set_option maxRecDepth 100000
/-! Lf, part E: statements. -/
namespace Lf
open PySem PySem.Spec L2

inductive Fl where
  | nx
  | rt (r : Val)
def PostS (X : Cx) (W : WX) (ρ : Env) (σ : St) (H : Hp) (O : Addr → Prop) (De : Ends) : Option (R Fl) → Prop
  | none => False
  | some (.er c) => ∀ cls d σ' H', XR X.mg c cls d H' → FrX ρ σ H H' → W cls d σ' H'
  | some (.ok .nx ρ') => ∀ σ' H' O', RE X.K ρ' σ' H' O' → Fr ρ σ H O ρ' σ' H' O' → De.nx σ' H'
  | some (.ok (.rt r) ρ') => ∀ v σ' H' O', RE X.K ρ' σ' H' O' → Fr ρ σ H O ρ' σ' H' O' → VR X.K ρ' σ' H' O' r v → (∀ d a, r = .ow d → v = .ref a → H a = none ∨ Ow ρ σ a) → De.rt v H'
def tS (X : Cx) (W : WX) (f : Ev Fl) : TS := fun De σ H => ∃ ρ O, RE X.K ρ σ H O ∧ PostS X W ρ σ H O De (f ρ)
structure VS (X : Cx) (W : WX) (st : Stmt) (f : Ev Fl) : Prop where
  ps : PS X st (tS X W f)
structure VSs (X : Cx) (W : WX) (st : List Stmt) (f : Ev Fl) : Prop where
  pss : PSs X st (tS X W f)
theorem PS.imp {X : Cx} {st : Stmt} {t t' : TS} (h : PS X st t) (hi : ∀ De σ H, t' De σ H → t De σ H) : PS X st t' := ⟨fun pins s σ H De I q => h.run pins s σ H De I (hi De σ H q)⟩
theorem PSs.imp {X : Cx} {st : List Stmt} {t t' : TS} (h : PSs X st t) (hi : ∀ De σ H, t' De σ H → t De σ H) : PSs X st t' := ⟨fun pins s σ H De I q => h.run pins s σ H De I (hi De σ H q)⟩

section
variable {X : Cx} {W : WX} {ρ ρ1 ρ' : Env} {σ σ1 σ' : St} {H H1 H' : Hp} {O O1 O' : Addr → Prop} {De : Ends} {f g : Ev Fl} {fe : Ev Val} {e : Expr} {st : Stmt} {sts : List Stmt} {pos : Pos}
theorem PostS.step (F : Fr ρ σ H O ρ1 σ1 H1 O1) : ∀ {m : Option (R Fl)}, PostS X W ρ σ H O De m → PostS X W ρ1 σ1 H1 O1 De m
  | none, h => h
  | some (.er c), h => fun cls d σ' H' x k => h cls d σ' H' x (FrX.trans F k)
  | some (.ok .nx ρ'), h => fun σ' H' O' E F' => h σ' H' O' E (F.trans F')
  | some (.ok (.rt r) ρ'), h => fun v σ' H' O' E F' V og => h v σ' H' O' E (F.trans F') V fun d a e1 e2 => by
    rcases og d a e1 e2 with z | z
    · refine .inl ?_
      cases q : H a with
      | none => rfl
      | some o =>
        obtain ⟨o', e⟩ := F.al a o q
        rw [z] at e; cases e
    · rcases F.ow a z with z | z
      · exact .inr z
      · exact .inl z
/-- an expression ahead of what follows: told from the statement's start -/
theorem tV_st {k : Val → Env → Option (R Fl)} (E : RE X.K ρ σ H O) (h : PostS X W ρ σ H O De (bnd (fe ρ) k)) :
    tV X W fe σ H fun v H1 => ∃ r ρ1 O1, EPost X.K ρ σ H O r ρ1 v H1 O1 ∧ PostS X W ρ σ H O De (k r ρ1) := by
  refine ⟨ρ, O, E, ?_⟩
  cases q : fe ρ with
  | none => rw [q] at h; exact h
  | some m =>
    rw [q] at h
    cases m with
    | er c => exact fun cls d H' x k => h cls d σ H' x k
    | ok r ρ1 => exact fun v H1 O1 P => ⟨r, ρ1, O1, P, h⟩
theorem tT_st {g : Ev Bool} {k : Bool → Env → Option (R Fl)} (E : RE X.K ρ σ H O) (h : PostS X W ρ σ H O De (bnd (g ρ) k)) :
    tT X W g σ H fun b H1 => ∃ ρ1 O1, RE X.K ρ1 σ H1 O1 ∧ PostS X W ρ1 σ H1 O1 De (k b ρ1) := by
  refine ⟨ρ, O, E, ?_⟩
  cases q : g ρ with
  | none => rw [q] at h; exact h
  | some m =>
    rw [q] at h
    cases m with
    | er c => exact fun cls d H' x k => h cls d σ H' x k
    | ok r ρ1 => exact fun H1 O1 E1 F => ⟨ρ1, O1, E1, h.step F⟩

/-! ### blocks -/
def sSkip : Ev Fl := fun ρ => some (.ok .nx ρ)
def sSeq (f g : Ev Fl) : Ev Fl := fun ρ => bnd (f ρ) fun fl ρ1 => match fl with
  | .nx => g ρ1
  | .rt r => some (.ok (.rt r) ρ1)
theorem vs_none : VS X W st xNone := ⟨⟨fun _ _ _ _ _ _ ⟨_, _, _, p⟩ => p.elim⟩⟩
theorem vss_none : VSs X W sts xNone := ⟨⟨fun _ _ _ _ _ _ ⟨_, _, _, p⟩ => p.elim⟩⟩
theorem vss_nil : VSs X W [] sSkip := ⟨PSs.imp pss_nil fun De σ H ⟨ρ, O, E, p⟩ => p σ H O E Fr.refl⟩
theorem vss_cons (h : VS X W st f) (hs : VSs X W sts g) : VSs X W (st :: sts) (sSeq f g) := ⟨PSs.imp (pss_cons h.ps hs.pss) fun De σ H ⟨ρ, O, E, p⟩ => by
  refine ⟨ρ, O, E, ?_⟩
  unfold sSeq at p
  cases q : f ρ with
  | none => rw [q] at p; exact p
  | some m =>
    rw [q] at p
    cases m with
    | er c => exact p
    | ok fl ρ1 =>
      cases fl with
      | nx => exact fun σ1 H1 O1 E1 F1 => ⟨ρ1, O1, E1, PostS.step F1 p⟩
      | rt r => exact p⟩
theorem vss_one (h : VS X W st f) : VSs X W [st] f := ⟨pss_one h.ps⟩
theorem vs_pass : VS X W (.Pass pos) sSkip := ⟨PS.imp ps_pass fun De σ H ⟨ρ, O, E, p⟩ => p σ H O E Fr.refl⟩
def sDo (fe : Ev Val) : Ev Fl := fun ρ => bnd (fe ρ) fun _ ρ1 => some (.ok .nx ρ1)
theorem vs_expr (he : VE X W e fe) (hs : swapsWith e none pos.line X.env = pure false := by rfl) : VS X W (.Expr e pos) (sDo fe) := ⟨PS.imp (ps_expr he.pe hs) fun De σ H ⟨ρ, O, E, p⟩ =>
  tV.mono (fun v H1 ⟨r, ρ1, O1, P, p1⟩ => p1 σ H1 O1 P.re P.fr) (tV_st E p)⟩
def sRet (fe : Ev Val) : Ev Fl := fun ρ => bnd (xTk fe ρ) fun r ρ1 => some (.ok (.rt r) ρ1)
theorem vs_ret (he : VE X W e fe) : VS X W (.Return (some e) pos) (sRet fe) := ⟨PS.imp (ps_ret (ve_tk he).pe) fun De σ H ⟨ρ, O, E, p⟩ =>
  tV.mono (fun v H1 ⟨r, ρ1, O1, P, p1⟩ => p1 v σ H1 O1 P.re P.fr P.vr P.og) (tV_st E p)⟩
def sIf (c : Ev Bool) (f g : Ev Fl) : Ev Fl := fun ρ => bnd (c ρ) fun b ρ1 => if b = true then f ρ1 else g ρ1
theorem vs_if {ce : Expr} {c : Ev Bool} {sa sb : List Stmt} (hc : VT X W ce c) (ha : VSs X W sa f) (hb : VSs X W sb g) : VS X W (.If ce sa sb pos) (sIf c f g) := ⟨PS.imp (ps_if hc.pt ha.pss hb.pss) fun De σ H ⟨ρ, O, E, p⟩ =>
  tT.mono (fun b H1 ⟨ρ1, O1, E1, p1⟩ => by
    cases b with
    | true => exact ⟨ρ1, O1, E1, p1⟩
    | false => exact ⟨ρ1, O1, E1, p1⟩) (tT_st E p)⟩

/-! ### stores -/
theorem get_set2 {α : Type} {l : List α} {i j : Nat} {x y : α} (h : (l.set i x)[j]? = some y) : (j = i ∧ y = x ∧ i < l.length) ∨ (j ≠ i ∧ l[j]? = some y) := by
  rcases get_set h with ⟨e1, e2⟩ | h'
  · refine .inl ⟨e1, e2, ?_⟩
    have := (List.getElem?_eq_some_iff.mp h).1
    rw [List.length_set] at this
    omega
  · exact .inr h'
def slotAt (i : Nat) : Val → Option Slot
  | .sh d => some (.sh d)
  | .ow d => if i = 0 then none else some (.ow d)
  | .bw _ => none
def slotOf : Val → Option Slot
  | .sh d => some (.sh d)
  | .ow d => some (.ow d)
  | .bw _ => none
theorem RE.put1 {K : PySem.W.Frag} {r : Val} {s : Slot} {v : V} {i : Nat} (E : RE K ρ1 σ1 H1 O1) (F : Fr ρ σ H O ρ1 σ1 H1 O1) (V : VR K ρ1 σ1 H1 O1 r v) (og : ∀ d a, r = .ow d → v = .ref a → H a = none ∨ Ow ρ σ a) (hr : slotAt i r = some s) :
    RE K (ρ1.set i s) (σ1.set i (some v)) H1 O1 ∧ Fr ρ σ H O (ρ1.set i s) (σ1.set i (some v)) H1 O1 := by
  -- a slot of the new environment
  have old : ∀ {j : Nat} {x : Slot}, (ρ1.set i s)[j]? = some x → (j = i ∧ x = s ∧ (σ1.set i (some v))[j]? = some (some v)) ∨ (j ≠ i ∧ ρ1[j]? = some x ∧ (σ1.set i (some v))[j]? = σ1[j]?) := fun {j x} h => by
    rcases get_set2 h with ⟨e1, e2, e3⟩ | ⟨n, h⟩
    · exact .inl ⟨e1, e2, by rw [e1, List.getElem?_set_self (by rw [← E.len]; exact e3)]⟩
    · exact .inr ⟨n, h, List.getElem?_set_ne (Ne.symm n)⟩
  cases r with
  | bw k => cases hr
  | sh d =>
    cases hr
    have ol : ∀ j a, OL (ρ1.set i (.sh d)) (σ1.set i (some v)) j a → OL ρ1 σ1 j a := fun j a ⟨⟨d', z⟩, e⟩ => by
      rcases z with z | z
      · rcases old z with ⟨_, w, _⟩ | ⟨n, w, w2⟩
        · cases w
        · exact ⟨⟨d', .inl w⟩, by rw [← w2]; exact e⟩
      · rcases old z with ⟨_, w, _⟩ | ⟨n, w, w2⟩
        · cases w
        · exact ⟨⟨d', .inr w⟩, by rw [← w2]; exact e⟩
    refine ⟨⟨by rw [List.length_set, List.length_set]; exact E.len, fun j d' h => ?_, fun j d' h => ?_, fun j d' h => ?_, fun j k a h1 h2 => E.inj j k a (ol j a h1) (ol k a h2)⟩,
      ⟨F.kp, F.al, F.sk, F.st, fun b ⟨j, d', h, e⟩ => ?_, fun j b ⟨⟨d', h⟩, e⟩ => ?_, fun b z => F.z0 b (ol 0 b z)⟩⟩
    · rcases old h with ⟨_, w, w2⟩ | ⟨n, w, w2⟩
      · cases w
        exact ⟨v, w2, V⟩
      · rw [w2]; exact E.sh j d' w
    · rcases old h with ⟨_, w, _⟩ | ⟨n, w, w2⟩
      · cases w
      · rw [w2]; exact E.ow j d' w
    · rcases old h with ⟨_, w, _⟩ | ⟨n, w, w2⟩
      · cases w
      · rw [w2]; exact E.lk j d' w
    · rcases old h with ⟨_, w, _⟩ | ⟨n, w, w2⟩
      · cases w
      · exact F.ow b ⟨j, d', w, by rw [← w2]; exact e⟩
    · rcases old h with ⟨_, w, _⟩ | ⟨n, w, w2⟩
      · cases w
      · exact F.lk j b ⟨⟨d', w⟩, by rw [← w2]; exact e⟩
  | ow d =>
    have hr : (if i = 0 then none else some (Slot.ow d)) = some s := hr
    by_cases i0 : i = 0
    · rw [if_pos i0] at hr; cases hr
    rw [if_neg i0] at hr
    cases hr
    obtain ⟨a, ev, oa, nw, nl, ob⟩ := V
    subst ev
    have ol : ∀ j b, OL (ρ1.set i (.ow d)) (σ1.set i (some (.ref a))) j b → (j = i ∧ b = a) ∨ (j ≠ i ∧ OL ρ1 σ1 j b) := fun j b ⟨⟨d', z⟩, e⟩ => by
      rcases z with z | z
      · rcases old z with ⟨w0, w, w2⟩ | ⟨n, w, w2⟩
        · rw [w2] at e; cases e
          exact .inl ⟨w0, rfl⟩
        · exact .inr ⟨n, ⟨d', .inl w⟩, by rw [← w2]; exact e⟩
      · rcases old z with ⟨_, w, _⟩ | ⟨n, w, w2⟩
        · cases w
        · exact .inr ⟨n, ⟨d', .inr w⟩, by rw [← w2]; exact e⟩
    have na : ∀ j, ¬ OL ρ1 σ1 j a := fun j ⟨⟨d', z⟩, e⟩ => by
      rcases z with z | z
      · exact nw ⟨j, d', z, e⟩
      · exact nl ⟨j, d', z, e⟩
    refine ⟨⟨by rw [List.length_set, List.length_set]; exact E.len, fun j d' h => ?_, fun j d' h => ?_, fun j d' h => ?_, fun j k b h1 h2 => ?_⟩,
      ⟨F.kp, F.al, F.sk, F.st, fun b ⟨j, d', h, e⟩ => ?_, fun j b ⟨⟨d', h⟩, e⟩ => ?_, fun b z => ?_⟩⟩
    · rcases old h with ⟨_, w, w2⟩ | ⟨n, w, w2⟩
      · cases w
      · rw [w2]; exact E.sh j d' w
    · rcases old h with ⟨_, w, w2⟩ | ⟨n, w, w2⟩
      · cases w
        exact ⟨a, w2, oa, ob⟩
      · rw [w2]; exact E.ow j d' w
    · rcases old h with ⟨_, w, _⟩ | ⟨n, w, w2⟩
      · cases w
      · rw [w2]; exact E.lk j d' w
    · rcases ol j b h1 with ⟨e1, e2⟩ | ⟨n1, h1⟩
      · rcases ol k b h2 with ⟨e3, e4⟩ | ⟨n2, h2⟩
        · rw [e1, e3]
        · rw [e2] at h2; exact absurd h2 (na k)
      · rcases ol k b h2 with ⟨e3, e4⟩ | ⟨n2, h2⟩
        · rw [e4] at h1; exact absurd h1 (na j)
        · exact E.inj j k b h1 h2
    · rcases old h with ⟨_, w, w2⟩ | ⟨n, w, w2⟩
      · rw [w2] at e; cases e
        rcases og d _ rfl rfl with z | z
        · exact .inr z
        · exact .inl z
      · exact F.ow b ⟨j, d', w, by rw [← w2]; exact e⟩
    · rcases old h with ⟨_, w, _⟩ | ⟨n, w, w2⟩
      · cases w
      · exact F.lk j b ⟨⟨d', w⟩, by rw [← w2]; exact e⟩
    · rcases ol 0 b z with ⟨e, _⟩ | ⟨_, z⟩
      · exact absurd e.symm i0
      · exact F.z0 b z
theorem RE.put {K : PySem.W.Frag} {r : Val} {s : Slot} {v : V} {i : Nat} (P : EPost K ρ σ H O r ρ1 v H1 O1) (hr : slotAt i r = some s) :
    RE K (ρ1.set i s) (σ.set i (some v)) H1 O1 ∧ Fr ρ σ H O (ρ1.set i s) (σ.set i (some v)) H1 O1 := RE.put1 P.re P.fr P.vr P.og hr
/-- name = e -/
def sPut (i : Nat) (r : Val) (ρ : Env) : Option (R Fl) := (slotAt i r).map fun s => .ok .nx (ρ.set i s)
def sSet (i : Nat) (fe : Ev Val) : Ev Fl := fun ρ => bnd (xTk fe ρ) fun r ρ1 => sPut i r ρ1
theorem put_ok {r : Val} {v : V} {i : Nat} (P : EPost X.K ρ σ H O r ρ1 v H1 O1) (p : PostS X W ρ σ H O De (sPut i r ρ1)) : De.nx (σ.set i (some v)) H1 := by
  unfold sPut at p
  cases q : slotAt i r with
  | none => rw [q] at p; exact p.elim
  | some s =>
    rw [q] at p
    obtain ⟨E2, F2⟩ := RE.put (i := i) P q
    exact p _ H1 O1 E2 F2
theorem vs_set (i : Nat) {x : Str} {pos' : Pos} (hN : X.N.Nodup) (he : VE X W e fe) (hi : X.N[i]? = some x := by rfl) (hx : Loc X.env.scope x := by first | exact Or.inl rfl | exact Or.inr rfl) (hs : swapsWith e (some (.Name x pos')) pos.line X.env = pure false := by rfl)
    (hf : X.fn x = true ∨ X.env.scope.names.lookup x = some .local := by first | exact .inl rfl | exact .inr rfl) : VS X W (.Assign [.Name x pos'] e pos) (sSet i fe) := ⟨PS.imp (ps_set hN hi hx (ve_tk he).pe hs hf) fun De σ H ⟨ρ, O, E, p⟩ =>
  tV.mono (fun v H1 ⟨r, ρ1, O1, P, p1⟩ => put_ok P p1) (tV_st E p)⟩
/-- name += e: ints -/
def sAug (i : Nat) (fe : Ev Val) : Ev Fl := fun ρ => match ρ[i]? with
  | some (Slot.sh (.int a)) => bnd (fe ρ) fun r ρ1 => match rd ρ1 r with
    | some (.int b) => some (.ok .nx (ρ1.set i (.sh (.int (a + b)))))
    | _ => none
  | _ => none
theorem vs_aug (i : Nat) {x : Str} {pos' : Pos} (hN : X.N.Nodup) (he : VE X W e fe) (hi : X.N[i]? = some x := by rfl) (hx : Loc X.env.scope x := by first | exact Or.inl rfl | exact Or.inr rfl)
    (hf : X.fn x = true ∨ X.env.scope.names.lookup x = some .local := by first | exact .inl rfl | exact .inr rfl) : VS X W (.AugAssign (.Name x pos') .Add e pos) (sAug i fe) := ⟨PS.imp (ps_aug hN hi hx he.pe ip_add hf) fun De σ H ⟨ρ, O, E, p⟩ => by
  unfold sAug at p
  split at p
  · rename_i a q
    obtain ⟨v, e1, rv⟩ := E.sh i _ q
    cases rv
    refine ⟨_, e1, tV.mono (fun u H1 ⟨r, ρ1, O1, P, p1⟩ => ?_) (tV_st E p)⟩
    split at p1
    · rename_i b q1
      have eu := (P.vr.rd P.re q1).int
      subst eu
      refine ⟨a, b, rfl, rfl, ?_⟩
      obtain ⟨E2, F2⟩ := RE.put (i := i) (r := .sh (.int (a + b))) (v := .int (a + b)) ⟨P.re, P.fr, .int _, fun _ _ e => nomatch e⟩ rfl
      exact p1 _ H1 O1 E2 F2
    · exact p1.elim
  · exact p.elim⟩

/-! ### several names -/
def setN : St → List Nat → List V → St
  | σ, i :: is, v :: vs => setN (σ.set i (some v)) is vs
  | σ, _, _ => σ
def setE : Env → List Nat → List D → Env
  | ρ, i :: is, d :: ds => setE (ρ.set i (.sh d)) is ds
  | ρ, _, _ => ρ
def gNames (is : List Nat) : TGs := fun vs σ H Q => vs.length = is.length ∧ Q (setN σ is vs) H
theorem PGs.imp {ts : List Expr} {t t' : TGs} (h : PGs X ts t) (hi : ∀ vs σ H Q, t' vs σ H Q → t vs σ H Q) : PGs X ts t' := ⟨fun pins s σ H vs us Q I r q => h.run pins s σ H vs us Q I r (hi vs σ H Q q)⟩
theorem PG.imp {tg : Expr} {t t' : TG} (h : PG X tg t) (hi : ∀ v σ H Q, t' v σ H Q → t v σ H Q) : PG X tg t' := ⟨fun pins s σ H v u Q I r q => h.run pins s σ H v u Q I r (hi v σ H Q q)⟩
theorem vn_nil : PGs X [] (gNames []) := PGs.imp pgs_nil fun vs σ H Q ⟨h, q⟩ => by
  cases vs with
  | nil => exact ⟨rfl, q⟩
  | cons v vs => cases h
theorem vn_cons (i : Nat) {x : Str} {p : Pos} {es : List Expr} {is : List Nat} (hN : X.N.Nodup) (h : PGs X es (gNames is)) (hi : X.N[i]? = some x := by rfl) (hx : Loc X.env.scope x := by first | exact Or.inl rfl | exact Or.inr rfl)
    (hf : X.fn x = true ∨ X.env.scope.names.lookup x = some .local := by first | exact .inl rfl | exact .inr rfl) (hs : (assignEach (.Name x p :: es) X.env).map (·.2) = assign (.Name x p) X.env :: (assignEach es X.env).map (·.2) := by rfl) : PGs X (.Name x p :: es) (gNames (i :: is)) :=
  PGs.imp (pgs_cons (pg_name hN hi hx hf) h hs) fun vs σ H Q ⟨h, q⟩ => by
    cases vs with
    | nil => cases h
    | cons v vs => exact ⟨v, vs, rfl, by simpa using h, q⟩
theorem RE.puts {K : PySem.W.Frag} : ∀ {is : List Nat} {vs : List V} {ds : List D} {ρ1 : Env} {σ1 : St}, RE K ρ1 σ1 H1 O1 → RpAll K H1 O1 vs ds → Fr ρ σ H O ρ1 σ1 H1 O1 → RE K (setE ρ1 is ds) (setN σ1 is vs) H1 O1 ∧ Fr ρ σ H O (setE ρ1 is ds) (setN σ1 is vs) H1 O1 := by
  intro is
  induction is with
  | nil => intro vs ds ρ1 σ1 E _ F; exact ⟨E, F⟩
  | cons i is ih =>
    intro vs ds ρ1 σ1 E r F
    cases r with
    | nil => exact ⟨E, F⟩
    | cons h t =>
      rename_i v vs d ds
      obtain ⟨E2, F2⟩ := RE.put (i := i) (r := .sh d) (v := v) ⟨E, Fr.refl, h, fun _ _ e => nomatch e⟩ rfl
      exact ih E2 t (F.trans F2)
/-- a, b = e, e a tuple -/
def sUnp (is : List Nat) (fe : Ev Val) : Ev Fl := fun ρ => bnd (xSh fe ρ) fun r ρ1 => match r with
  | .sh (.tup ds) => if ds.length = is.length then some (.ok .nx (setE ρ1 is ds)) else none
  | _ => none
theorem vs_unp {is : List Nat} {ts : List Expr} {k n : Nat} {tp : Pos} (hc : X.calm = true) (he : VE X W e fe) (hg : PGs X ts (gNames is)) (hn : (assignEach ts X.env).length = is.length := by rfl) (hst : (assignEach ts X.env).findIdx? (·.1) = none := by rfl)
    (hs : swapsWithSole [.Tuple ts k tp] e pos.line X.env = pure false := by rfl) (hw : swappedStores [.Tuple ts k tp] e X.env = pure none := by rfl) : VS X W (.Assign [.Tuple ts k tp] e pos) (sUnp is fe) :=
  ⟨PS.imp (ps_asg (ve_sh he).pe (pg_tup (n := is.length) hc hg hn hst) hs hw) fun De σ H ⟨ρ, O, E, p⟩ =>
    tV.mono (fun v H1 ⟨r, ρ1, O1, P, p1⟩ => by
      split at p1
      · rename_i ds
        have q := P.vr
        cases q with
        | @tup a xs _ h1 h2 =>
          by_cases hl : ds.length = is.length
          · rw [if_pos hl] at p1
            refine ⟨a, xs, rfl, SqT.of h1, by rw [h2.length]; exact hl, by rw [h2.length]; exact hl, ?_⟩
            obtain ⟨E2, F2⟩ := RE.puts (is := is) P.re h2 P.fr
            exact p1 _ _ _ E2 F2
          · rw [if_neg hl] at p1; exact p1.elim
      · exact p1.elim) (tV_st E p)⟩
/-- a, b = x, y: each as it is -/
def sPar (i j : Nat) (fa fb : Ev Val) : Ev Fl := fun ρ => bnd (xTk fa ρ) fun r ρ1 => bnd (xTk fb ρ1) fun u ρ2 => (slotAt i r).bind fun s => (slotAt j u).map fun t => .ok .nx ((ρ2.set i s).set j t)
theorem par_ok {fa fb : Ev Val} {i j : Nat} {T : List V → Hp → Prop} (E : RE X.K ρ σ H O) (p : PostS X W ρ σ H O De (sPar i j fa fb ρ)) (hT : ∀ v w H2, (∀ H3, (∀ b o, H2 b = some o → H3 b = some o) → De.nx ((σ.set i (some v)).set j (some w)) H3) → T [v, w] H2) : (tCons (tV X W (xTk fa)) (tCons (tV X W (xTk fb)) tNil)) σ H T := by
  refine tV.mono (fun v H1 ⟨r, ρ1, O1, P, p1⟩ => ?_) (tV_st E p)
  refine ⟨ρ1, O1, P.re, ?_⟩
  cases q : xTk fb ρ1 with
  | none => rw [q] at p1; exact p1
  | some m =>
    rw [q] at p1
    cases m with
    | er c => exact fun cls d H' x k => p1 cls d σ H' x (FrX.trans P.fr k)
    | ok u ρ2 =>
      intro w H2 O2 P2
      refine hT v w H2 fun H3 kp => ?_
      have p1 : PostS X W ρ σ H O De ((slotAt i r).bind fun s => (slotAt j u).map fun t => .ok .nx ((ρ2.set i s).set j t)) := p1
      cases q1 : slotAt i r with
      | none => rw [q1] at p1; exact p1.elim
      | some s =>
        rw [q1] at p1
        have p1 : PostS X W ρ σ H O De ((slotAt j u).map fun t => .ok .nx ((ρ2.set i s).set j t)) := p1
        cases q2 : slotAt j u with
        | none => rw [q2] at p1; exact p1.elim
        | some t =>
          rw [q2] at p1
          -- the first value, behind the second one
          obtain ⟨E3, F3⟩ := RE.put1 (i := i) P2.re (P.fr.trans P2.fr) (P.vr.later P.re P2.fr) P.og q1
          -- the second one stands apart from it
          have V2 : VR X.K (ρ2.set i s) (σ.set i (some v)) H2 O2 u w := by
            cases u with
            | bw k => cases q2
            | sh d => exact P2.vr
            | ow d =>
              obtain ⟨a, ea, oa, nw, nl, ob⟩ := P2.vr
              have ne : ∀ d', r = .ow d' → v ≠ .ref a := fun d' er ev => by
                have h1 := P.vr
                subst er
                obtain ⟨a', ea', oa', nw', nl', ob'⟩ := h1
                rw [ev] at ea'; cases ea'
                obtain ⟨o, ho⟩ := ob'.ex
                rcases P2.og d a rfl ea with z | z
                · rw [ho] at z; cases z
                · exact nw' z
              refine ⟨a, ea, oa, fun ⟨k, d', z1, z2⟩ => ?_, fun ⟨k, d', z1, z2⟩ => ?_, ob⟩
              · rcases get_set2 z1 with ⟨e1, e2, e3⟩ | ⟨n, z1⟩
                · subst e1
                  rw [List.getElem?_set_self (by rw [← P2.re.len]; exact e3)] at z2
                  cases r with
                  | bw k => cases q1
                  | sh d1 => cases q1; cases e2
                  | ow d1 => exact ne d1 rfl (by simpa using z2)
                · rw [List.getElem?_set_ne (Ne.symm n)] at z2
                  exact nw ⟨k, d', z1, z2⟩
              · rcases get_set2 z1 with ⟨e1, e2, e3⟩ | ⟨n, z1⟩
                · cases r with
                  | bw k => cases q1
                  | sh d1 => cases q1; cases e2
                  | ow d1 =>
                    have q1 : (if k = 0 then none else some (Slot.ow d1)) = some s := by rw [e1]; exact q1
                    by_cases i0 : k = 0
                    · rw [if_pos i0] at q1; cases q1
                    · rw [if_neg i0] at q1; cases q1; cases e2
                · rw [List.getElem?_set_ne (Ne.symm n)] at z2
                  exact nl ⟨k, d', z1, z2⟩
          have og2 : ∀ d a, u = .ow d → w = .ref a → H a = none ∨ Ow ρ σ a := fun d a e1 e2 => by
            rcases P2.og d a e1 e2 with z | z
            · refine .inl ?_
              cases q : H a with
              | none => rfl
              | some o =>
                obtain ⟨o', e⟩ := P.fr.al a o q
                rw [z] at e; cases e
            · rcases P.fr.ow a z with z | z
              · exact .inr z
              · exact .inl z
          obtain ⟨E4, F4⟩ := RE.put1 (i := j) E3 F3 V2 og2 q2
          refine p1 _ H3 O2 (E4.ext (fun b o h _ => kp b o h) (fun _ z => .inl z) fun _ z => z) (F4.trans ⟨fun b o h _ _ => kp b o h, fun b o h => ⟨o, kp b o h⟩, fun _ z => .inl z, fun _ _ _ z _ => z, fun _ z => .inl z, fun _ _ z => z, fun _ z => z⟩)
theorem vs_par (i j : Nat) {x y : Str} {a b : Expr} {fa fb : Ev Val} {px py pt : Pos} {kt k2 pt2} (hc : X.calm = true) (hN : X.N.Nodup) (ha : VE X W a fa) (hb : VE X W b fb) (hi : X.N[i]? = some x := by rfl) (hj : X.N[j]? = some y := by rfl) (hij : i ≠ j := by decide)
    (hx : X.env.scope.names.lookup x = some .local := by rfl) (hy : X.env.scope.names.lookup y = some .local := by rfl)
    (hw : swappedStores [.Tuple [.Name x px, .Name y py] kt pt] (.Tuple [a, b] k2 pt2) X.env = pure (some [x, y]) := by rfl)
    (hs : swapsWithSole [.Tuple [.Name x px, .Name y py] kt pt] (.Tuple [a, b] k2 pt2) pos.line X.env = pure false := by rfl)
    (h1 : starEach (a :: [b]) X.env = (false, eval a X.env) :: starEach [b] X.env := by rfl) (h2 : starEach (b :: []) X.env = (false, eval b X.env) :: starEach [] X.env := by rfl) :
    VS X W (.Assign [.Tuple [.Name x px, .Name y py] kt pt] (.Tuple [a, b] k2 pt2) pos) (sPar i j fa fb) :=
  ⟨PS.imp (ps_par hc hN hi hj hij hx hy (pa_cons (ve_tk ha).pe (pa_cons (ve_tk hb).pe pa_nil h2) h1) hw hs) fun De σ H ⟨ρ, O, E, p⟩ =>
    par_ok E p fun v w H2 h => ⟨v, w, rfl, h H2 fun _ _ z => z⟩⟩
/-- .. where the tuple is made (a name that is captured) -/
theorem vs_parT (i j : Nat) {x y : Str} {a b : Expr} {fa fb : Ev Val} {px py pt : Pos} {kt k2 pt2} (hc : X.calm = true) (hN : X.N.Nodup) (ha : VE X W a fa) (hb : VE X W b fb) (hg : PGs X [.Name x px, .Name y py] (gNames [i, j]))
    (hw : swappedStores [.Tuple [.Name x px, .Name y py] kt pt] (.Tuple [a, b] k2 pt2) X.env = pure none := by rfl)
    (hs : swapsWithSole [.Tuple [.Name x px, .Name y py] kt pt] (.Tuple [a, b] k2 pt2) pos.line X.env = pure false := by rfl)
    (hn : (assignEach [.Name x px, .Name y py] X.env).length = 2 := by rfl) (hst : (assignEach [.Name x px, .Name y py] X.env).findIdx? (·.1) = none := by rfl)
    (h1 : starEach (a :: [b]) X.env = (false, eval a X.env) :: starEach [b] X.env := by rfl) (h2 : starEach (b :: []) X.env = (false, eval b X.env) :: starEach [] X.env := by rfl) :
    VS X W (.Assign [.Tuple [.Name x px, .Name y py] kt pt] (.Tuple [a, b] k2 pt2) pos) (sPar i j fa fb) :=
  ⟨PS.imp (ps_asg (pe_tup (pa_cons (ve_tk ha).pe (pa_cons (ve_tk hb).pe pa_nil h2) h1)) (pg_tup (n := 2) hc hg hn hst) hs hw) fun De σ H ⟨ρ, O, E, p⟩ =>
    par_ok (T := fun xs H1 => xs.length ≤ sizeLine ∧ ∀ t, H1 t = none → gTup X.K 2 (gNames [i, j]) (.ref t) σ (upd H1 t (.tup xs)) De.nx) E p fun v w H2 h => ⟨by show 2 ≤ sizeLine; decide, fun t ht => ⟨t, [v, w], rfl, SqT.of upd_same, rfl, rfl, h _ (upd_kp ht)⟩⟩⟩

/-! ### an owned object is changed -/
theorem RE.mut {K : PySem.W.Frag} {j : Nat} {d0 d1 : D} {a : Addr} (E : RE K ρ σ H O) (hj : ρ[j]? = some (Slot.ow d0)) (ha : σ[j]? = some (some (V.ref a)))
    (kp : ∀ b o, H b = some o → b ≠ a → H' b = some o) (al : ∃ o, H' a = some o) (sk : ∀ b, O' b → O b ∨ H b = none) (st : ∀ b, O b → O' b) (ob : Ob K H' O' a d1) :
    RE K (ρ.set j (.ow d1)) σ H' O' ∧ Fr ρ σ H O (ρ.set j (.ow d1)) σ H' O' := by
  have me : OL ρ σ j a := ⟨⟨d0, .inl hj⟩, ha⟩
  have owa : Ow ρ σ a := ⟨j, d0, hj, ha⟩
  have k : Ke H H' O O' := ⟨fun b o h t n => kp b o h fun e => by
    subst e
    obtain ⟨w1, _, w2⟩ := E.ol me
    rcases n with n | ⟨xs, n⟩
    · exact n w1
    · rw [n] at h; exact w2 xs h, sk⟩
  have ow1 : ∀ b, Ow (ρ.set j (.ow d1)) σ b → Ow ρ σ b := fun b ⟨i, d, z1, z2⟩ => by
    rcases get_set z1 with ⟨z, _⟩ | ⟨_, z⟩
    · subst z; exact ⟨i, d0, hj, z2⟩
    · exact ⟨i, d, z, z2⟩
  have lk1 : ∀ i b, LkAt (ρ.set j (.ow d1)) σ i b → LkAt ρ σ i b := fun i b ⟨⟨d, z1⟩, z2⟩ => by
    rcases get_set z1 with ⟨_, z⟩ | ⟨_, z⟩
    · cases z
    · exact ⟨⟨d, z⟩, z2⟩
  have ol1 : ∀ i b, OL (ρ.set j (.ow d1)) σ i b → OL ρ σ i b := fun i b ⟨⟨d, z1⟩, z2⟩ => by
    rcases z1 with z1 | z1
    · rcases get_set z1 with ⟨z, _⟩ | ⟨_, z⟩
      · subst z; exact ⟨⟨d0, .inl hj⟩, z2⟩
      · exact ⟨⟨d, .inl z⟩, z2⟩
    · rcases get_set z1 with ⟨_, z⟩ | ⟨_, z⟩
      · cases z
      · exact ⟨⟨d, .inr z⟩, z2⟩
  refine ⟨⟨by rw [List.length_set]; exact E.len, fun i d z => ?_, fun i d z => ?_, fun i d z => ?_, fun i l b z1 z2 => E.inj i l b (ol1 i b z1) (ol1 l b z2)⟩,
    ⟨fun b o h t n => kp b o h fun e => n (by rw [e]; exact owa), fun b o h => ?_, sk, fun b o _ z _ => st b z, fun b z => .inl (ow1 b z), lk1, fun b z => ol1 0 b z⟩⟩
  · rcases get_set z with ⟨_, z⟩ | ⟨_, z⟩
    · cases z
    · obtain ⟨v, e, q⟩ := E.sh i d z
      exact ⟨v, e, q.ke k⟩
  · rcases get_set z with ⟨w, w'⟩ | ⟨ne, z⟩
    · cases w'
      subst w
      exact ⟨a, ha, st a (E.ol me).1, ob⟩
    · obtain ⟨b, e, o, q⟩ := E.ow i d z
      have nb : b ≠ a := fun e' => by
        subst e'
        exact ne (E.inj i j b ⟨⟨d, .inl z⟩, e⟩ me)
      exact ⟨b, e, st b o, q.ke k fun o' h t => kp b o' h nb⟩
  · rcases get_set z with ⟨_, z⟩ | ⟨ne, z⟩
    · cases z
    · obtain ⟨b, e, o, q⟩ := E.lk i d z
      have nb : b ≠ a := fun e' => by
        subst e'
        exact ne (E.inj i j b ⟨⟨d, .inr z⟩, e⟩ me)
      exact ⟨b, e, st b o, q.ke k fun o' h t => kp b o' h nb⟩
  · by_cases e : b = a
    · rw [e]; exact al
    · exact ⟨o, kp b o h e⟩
end
end Lf

set_option Elab.async false
set_option linter.all false
set_option maxRecDepth 100000
/-! Lf, part F: what is walked (locked meanwhile), for, while. -/
namespace Lf
open PySem PySem.Spec L2

/-! ### lock, freeze -/
section
variable {K : PySem.W.Frag} {ρ ρ1 ρ' : Env} {σ σ1 σ' : St} {H H1 H' Hr : Hp} {O O1 O' : Addr → Prop}
def unl (u : Option Nat) (ρ : Env) : Env := match u with
  | none => ρ
  | some i => match ρ[i]? with
    | some (Slot.lk d) => ρ.set i (.ow d)
    | _ => ρ
theorem RE.lock (E : RE K ρ σ H O) {i : Nat} {d : D} {a : Addr} (hi : ρ[i]? = some (Slot.ow d)) (ha : σ[i]? = some (some (V.ref a))) :
    RE K (ρ.set i (.lk d)) σ H O ∧ (∀ b, Ow (ρ.set i (.lk d)) σ b → Ow ρ σ b) ∧ ¬ Ow (ρ.set i (.lk d)) σ a ∧ ∀ j b, LkAt (ρ.set i (.lk d)) σ j b → j ≠ i → LkAt ρ σ j b := by
  have me : OL ρ σ i a := ⟨⟨d, .inl hi⟩, ha⟩
  have ol1 : ∀ j b, OL (ρ.set i (.lk d)) σ j b → OL ρ σ j b := fun j b ⟨⟨d', z1⟩, z2⟩ => by
    rcases z1 with z1 | z1
    · rcases get_set z1 with ⟨_, z⟩ | ⟨_, z⟩
      · cases z
      · exact ⟨⟨d', .inl z⟩, z2⟩
    · rcases get_set z1 with ⟨z, _⟩ | ⟨_, z⟩
      · subst z; exact ⟨⟨d, .inl hi⟩, z2⟩
      · exact ⟨⟨d', .inr z⟩, z2⟩
  refine ⟨⟨by rw [List.length_set]; exact E.len, fun j d' z => ?_, fun j d' z => ?_, fun j d' z => ?_, fun j l b z1 z2 => E.inj j l b (ol1 j b z1) (ol1 l b z2)⟩, fun b ⟨j, d', z1, z2⟩ => ?_, fun ⟨j, d', z1, z2⟩ => ?_, fun j b ⟨⟨d', z1⟩, z2⟩ n => ?_⟩
  · rcases get_set z with ⟨_, z⟩ | ⟨_, z⟩
    · cases z
    · exact E.sh j d' z
  · rcases get_set z with ⟨_, z⟩ | ⟨_, z⟩
    · cases z
    · exact E.ow j d' z
  · rcases get_set z with ⟨w, w'⟩ | ⟨_, z⟩
    · cases w'
      subst w
      obtain ⟨b, e, o, q⟩ := E.ow _ _ hi
      exact ⟨b, e, o, q.r⟩
    · exact E.lk j d' z
  · rcases get_set z1 with ⟨_, z⟩ | ⟨_, z⟩
    · cases z
    · exact ⟨j, d', z, z2⟩
  · rcases get_set z1 with ⟨_, z⟩ | ⟨n, z⟩
    · cases z
    · exact n (E.inj j i a ⟨⟨d', .inl z⟩, z2⟩ me)
  · rcases get_set z1 with ⟨z, _⟩ | ⟨_, z⟩
    · exact absurd z n
    · exact ⟨⟨d', z⟩, z2⟩
theorem ObR.un {a : Addr} {o : HO} (h : H a = some o) (n : ∀ o' u', o ≠ .frz o' u') : ∀ {d : D}, ObR K H O a d → Ob K H O a d
  | .lst _, ⟨xs, q, r⟩ => by
    rcases q with q | ⟨o', q⟩
    · exact ⟨xs, q, r⟩
    · rw [h] at q; cases q; exact absurd rfl (n _ _)
  | .dk _, q => by
    rcases (show Rd H a _ from q) with q | ⟨o', q⟩
    · exact q
    · rw [h] at q; cases q; exact absurd rfl (n _ _)
  | .dt _, q => by
    rcases (show Rd H a _ from q) with q | ⟨o', q⟩
    · exact q
    · rw [h] at q; cases q; exact absurd rfl (n _ _)
  | .non, q => q.elim
  | .bl _, q => q.elim
  | .int _, q => q.elim
  | .str _, q => q.elim
  | .tup _, q => q.elim
theorem Ob.nofrz {a : Addr} : ∀ {d : D}, Ob K H O a d → ∃ o, H a = some o ∧ NT o ∧ ∀ o' u', o ≠ .frz o' u'
  | .lst _, ⟨xs, q, r⟩ => ⟨_, q, nt_lst, fun _ _ h => nomatch h⟩
  | .dk _, q => ⟨_, q, nt_dK, fun _ _ h => nomatch h⟩
  | .dt _, q => ⟨_, q, nt_dT, fun _ _ h => nomatch h⟩
  | .non, q => q.elim
  | .bl _, q => q.elim
  | .int _, q => q.elim
  | .str _, q => q.elim
  | .tup _, q => q.elim
/-- behind the loop the slot is open again -/
theorem unl_ok (E : RE K ρ σ H O) {i : Nat} {d : D} (hi : ρ[i]? = some (Slot.ow d)) (E' : RE K ρ' σ' H' O') (F : Fr (ρ.set i (.lk d)) σ H O ρ' σ' H' O') :
    RE K (unl (some i) ρ') σ' H' O' ∧ Fr ρ σ H O (unl (some i) ρ') σ' H' O' ∧ ∀ b, Ow (unl (some i) ρ') σ' b → Ow ρ' σ' b ∨ Lk ρ' σ' b := by
  obtain ⟨a, ha, oa, ob⟩ := E.ow i d hi
  obtain ⟨El, w1, w2, w3⟩ := E.lock hi ha
  obtain ⟨o, ho, nt, nf⟩ := ob.nofrz
  have owa : Ow ρ σ a := ⟨i, d, hi, ha⟩
  have keep := F.kp a o ho nt w2
  have olk : ∀ j b, OL (ρ.set i (.lk d)) σ j b → OL ρ σ j b := fun j b ⟨⟨d', z1⟩, z2⟩ => by
    rcases z1 with z1 | z1
    · rcases get_set z1 with ⟨_, z⟩ | ⟨_, z⟩
      · cases z
      · exact ⟨⟨d', .inl z⟩, z2⟩
    · rcases get_set z1 with ⟨z, _⟩ | ⟨_, z⟩
      · subst z; exact ⟨⟨d, .inl hi⟩, z2⟩
      · exact ⟨⟨d', .inr z⟩, z2⟩
  have FF : ∀ {ρ2 : Env}, (∀ b, Ow ρ2 σ' b → Ow ρ' σ' b ∨ b = a) → (∀ j b, LkAt ρ2 σ' j b → LkAt ρ' σ' j b ∧ (j = i → False)) → (∀ b, OL ρ2 σ' 0 b → OL ρ' σ' 0 b) → Fr ρ σ H O ρ2 σ' H' O' := fun {ρ2} h1 h2 h3 =>
    ⟨fun b o h t n => F.kp b o h t fun z => n (w1 b z), F.al, F.sk, fun b o h q n => F.st b o h q fun z => n (w1 b z), fun b z => by
      rcases h1 b z with z | z
      · rcases F.ow b z with z | z
        · exact .inl (w1 b z)
        · exact .inr z
      · rw [z]; exact .inl owa, fun j b z => by
      obtain ⟨z1, z2⟩ := h2 j b z
      exact w3 j b (F.lk j b z1) fun e => z2 e, fun b z => olk 0 b (F.z0 b (h3 b z))⟩
  unfold unl
  dsimp only
  split
  · rename_i d' q
    obtain ⟨b, hb, ob', r'⟩ := E'.lk i d' q
    obtain ⟨_, hb2⟩ := F.lk i b ⟨⟨d', q⟩, hb⟩
    rw [ha] at hb2; cases hb2
    have me : OL ρ' σ' i a := ⟨⟨d', .inr q⟩, hb⟩
    have ol1 : ∀ j b, OL (ρ'.set i (.ow d')) σ' j b → OL ρ' σ' j b := fun j b ⟨⟨d'', z1⟩, z2⟩ => by
      rcases z1 with z1 | z1
      · rcases get_set z1 with ⟨z, _⟩ | ⟨_, z⟩
        · subst z; exact ⟨⟨d', .inr q⟩, z2⟩
        · exact ⟨⟨d'', .inl z⟩, z2⟩
      · rcases get_set z1 with ⟨_, z⟩ | ⟨_, z⟩
        · cases z
        · exact ⟨⟨d'', .inr z⟩, z2⟩
    have ow1 : ∀ b, Ow (ρ'.set i (.ow d')) σ' b → Ow ρ' σ' b ∨ b = a := fun b ⟨j, d'', z1, z2⟩ => by
      rcases get_set z1 with ⟨z, _⟩ | ⟨_, z⟩
      · subst z; rw [hb] at z2; cases z2; exact .inr rfl
      · exact .inl ⟨j, d'', z, z2⟩
    refine ⟨⟨by rw [List.length_set]; exact E'.len, fun j d'' z => ?_, fun j d'' z => ?_, fun j d'' z => ?_, fun j l b z1 z2 => E'.inj j l b (ol1 j b z1) (ol1 l b z2)⟩, FF ow1 (fun j b ⟨⟨d'', z1⟩, z2⟩ => ?_) (fun b z => ol1 0 b z), fun b z => ?_⟩
    · rcases get_set z with ⟨_, z⟩ | ⟨_, z⟩
      · cases z
      · exact E'.sh j d'' z
    · rcases get_set z with ⟨w, w'⟩ | ⟨_, z⟩
      · cases w'
        subst w
        exact ⟨a, hb, ob', r'.un keep nf⟩
      · exact E'.ow j d'' z
    · rcases get_set z with ⟨_, z⟩ | ⟨_, z⟩
      · cases z
      · exact E'.lk j d'' z
    · rcases get_set z1 with ⟨_, z⟩ | ⟨n, z⟩
      · cases z
      · exact ⟨⟨⟨d'', z⟩, z2⟩, n⟩
    · rcases ow1 b z with z | z
      · exact .inl z
      · rw [z]; exact .inr ⟨i, d', q, hb⟩
  · rename_i q
    refine ⟨E', FF (fun b z => .inl z) (fun j b z => ⟨z, fun e => ?_⟩) (fun b z => z), fun b z => .inl z⟩
    subst e
    obtain ⟨⟨d', z⟩, _⟩ := z
    exact q d' z
/-- a dict is frozen, is thawed -/
theorem keR_frz {a : Addr} {u : HO} {od : Obj} (h : H a = some u) (nu : (∃ xs, u = .dK xs) ∨ ∃ xs, u = .dT xs) : KeR H (upd H a (.frz od u)) O O := by
  refine ⟨fun b w _ r n => ⟨?_, n⟩, fun b xs e => ?_⟩
  · by_cases hb : b = a
    · subst hb
      refine .inr ⟨od, ?_⟩
      rw [upd_same]
      rcases r with r | ⟨o', r⟩
      · rw [h] at r; cases r; rfl
      · rw [h] at r; cases r
        rcases nu with ⟨xs, nu⟩ | ⟨xs, nu⟩ <;> cases nu
    · rcases r with r | ⟨o', r⟩
      · exact .inl (by rw [upd_ne hb]; exact r)
      · exact .inr ⟨o', by rw [upd_ne hb]; exact r⟩
  · rw [upd_ne (fun z => by
      subst z
      rw [h] at e; cases e
      rcases nu with ⟨xs, nu⟩ | ⟨xs, nu⟩ <;> cases nu)]
    exact e
theorem keR_thw {a : Addr} {u : HO} {od : Obj} (h : H a = some (.frz od u)) (nu : (∃ xs, u = .dK xs) ∨ ∃ xs, u = .dT xs) : KeR H (upd H a u) O O := by
  refine ⟨fun b w nw r n => ⟨?_, n⟩, fun b xs e => ?_⟩
  · by_cases hb : b = a
    · subst hb
      refine .inl ?_
      rw [upd_same]
      rcases r with r | ⟨o', r⟩
      · rw [h] at r; cases r
        rcases nw with ⟨xs, nw⟩ | ⟨xs, nw⟩ | ⟨xs, nw⟩ <;> cases nw
      · rw [h] at r; cases r; rfl
    · rcases r with r | ⟨o', r⟩
      · exact .inl (by rw [upd_ne hb]; exact r)
      · exact .inr ⟨o', by rw [upd_ne hb]; exact r⟩
  · rw [upd_ne (fun z => by subst z; rw [h] at e; cases e)]
    exact e
theorem Ob.keR {a : Addr} (k : KeR H H' O O') (e : H' a = H a) : ∀ {d : D}, Ob K H O a d → Ob K H' O' a d
  | .lst _, ⟨xs, h, r⟩ => ⟨xs, by rw [e]; exact h, r.keR k⟩
  | .dk _, h => by show H' a = _; rw [e]; exact h
  | .dt _, h => by show H' a = _; rw [e]; exact h
  | .non, h => h
  | .bl _, h => h
  | .int _, h => h
  | .str _, h => h
  | .tup _, h => h
theorem ObR.keR {a : Addr} (k : KeR H H' O O') (e : ∀ u, ((∃ xs, u = HO.lst xs) ∨ (∃ xs, u = HO.dK xs) ∨ ∃ xs, u = HO.dT xs) → Rd H a u → Rd H' a u) : ∀ {d : D}, ObR K H O a d → ObR K H' O' a d
  | .lst _, ⟨xs, h, r⟩ => ⟨xs, e _ (.inl ⟨_, rfl⟩) h, r.keR k⟩
  | .dk _, h => e _ (.inr (.inl ⟨_, rfl⟩)) (show Rd H a _ from h)
  | .dt _, h => e _ (.inr (.inr ⟨_, rfl⟩)) (show Rd H a _ from h)
  | .non, h => h
  | .bl _, h => h
  | .int _, h => h
  | .str _, h => h
  | .tup _, h => h
theorem RE.keR (E : RE K ρ σ H O) (k : KeR H H' O O) (k0 : ∀ b u, ((∃ xs, u = HO.lst xs) ∨ (∃ xs, u = HO.dK xs) ∨ ∃ xs, u = HO.dT xs) → Rd H b u → Rd H' b u) (ho : ∀ b, Ow ρ σ b → H' b = H b) : RE K ρ σ H' O := by
  refine ⟨E.len, fun i d h => ?_, fun i d h => ?_, fun i d h => ?_, E.inj⟩
  · obtain ⟨v, e, q⟩ := E.sh i d h
    exact ⟨v, e, q.keR k⟩
  · obtain ⟨a, e, o, q⟩ := E.ow i d h
    exact ⟨a, e, o, q.keR k (ho a ⟨i, d, h, e⟩)⟩
  · obtain ⟨a, e, o, q⟩ := E.lk i d h
    exact ⟨a, e, o, q.keR k fun u nu r => k0 a u nu r⟩
theorem rd_frz {a : Addr} {u : HO} {od : Obj} (h : H a = some u) (nu : (∃ xs, u = .dK xs) ∨ ∃ xs, u = .dT xs) : ∀ b w, ((∃ xs, w = HO.lst xs) ∨ (∃ xs, w = HO.dK xs) ∨ ∃ xs, w = HO.dT xs) → Rd H b w → Rd (upd H a (.frz od u)) b w := fun b w nw r =>
  ((keR_frz (O := fun _ => False) (od := od) h nu).rk b w nw r fun z => z).1
theorem rd_thw {a : Addr} {u : HO} {od : Obj} (h : H a = some (.frz od u)) (nu : (∃ xs, u = .dK xs) ∨ ∃ xs, u = .dT xs) : ∀ b w, ((∃ xs, w = HO.lst xs) ∨ (∃ xs, w = HO.dK xs) ∨ ∃ xs, w = HO.dT xs) → Rd H b w → Rd (upd H a u) b w := fun b w nw r =>
  ((keR_thw (O := fun _ => False) h nu).rk b w nw r fun z => z).1
theorem frz_ok {a : Addr} {u : HO} {od : Obj} (E : RE K ρ σ H O) (h : H a = some u) (nu : (∃ xs, u = .dK xs) ∨ ∃ xs, u = .dT xs) (n : ¬ Ow ρ σ a) : RE K ρ σ (upd H a (.frz od u)) O :=
  E.keR (keR_frz h nu) (rd_frz h nu) fun b z => upd_ne fun e => n (by rw [← e]; exact z)
theorem thw_ok {a : Addr} {u : HO} {od : Obj} (h : H a = some u) (nu : (∃ xs, u = .dK xs) ∨ ∃ xs, u = .dT xs) (n : ¬ Ow ρ σ a) (E' : RE K ρ' σ' H' O') (F : Fr ρ σ (upd H a (.frz od u)) O ρ' σ' H' O') :
    H' a = some (.frz od u) ∧ RE K ρ' σ' (upd H' a u) O' ∧ Fr ρ σ H O ρ' σ' (upd H' a u) O' ∧ ∀ r v, slotOf r ≠ none → VR K ρ' σ' H' O' r v → VR K ρ' σ' (upd H' a u) O' r v := by
  have nt : NT u := by rcases nu with ⟨xs, rfl⟩ | ⟨xs, rfl⟩ <;> exact fun _ z => nomatch z
  have h1 : H' a = some (.frz od u) := F.kp a _ upd_same nt_frz n
  have n' : ¬ Ow ρ' σ' a := fun z => by
    rcases F.ow a z with z | z
    · exact n z
    · rw [upd_same] at z; cases z
  have ne : ∀ b, Ow ρ' σ' b → b ≠ a := fun b z e => n' (by rw [← e]; exact z)
  have k := keR_thw (O := O') h1 nu
  have hn : ∀ b, upd H a (.frz od u) b = none → H b = none := fun b z => by
    by_cases e : b = a
    · subst e; rw [upd_same] at z; cases z
    · rw [upd_ne e] at z; exact z
  refine ⟨h1, E'.keR k (rd_thw h1 nu) fun b z => upd_ne (ne b z), ⟨fun b o e t w => ?_, fun b o e => ?_, fun b z => ?_, fun b o e q w => ?_, fun b z => ?_, F.lk, F.z0⟩, fun r v hr V => ?_⟩
  · by_cases hb : b = a
    · subst hb; rw [h] at e; cases e; exact upd_same
    · rw [upd_ne hb]; exact F.kp b o (by rw [upd_ne hb]; exact e) t w
  · by_cases hb : b = a
    · subst hb; exact ⟨_, upd_same⟩
    · rw [upd_ne hb]; exact F.al b o (by rw [upd_ne hb]; exact e)
  · rcases F.sk b z with z | z
    · exact .inl z
    · exact .inr (hn b z)
  · by_cases hb : b = a
    · subst hb; exact F.st b _ upd_same q w
    · exact F.st b o (by rw [upd_ne hb]; exact e) q w
  · rcases F.ow b z with z | z
    · exact .inl z
    · exact .inr (hn b z)
  · cases r with
    | bw i => exact absurd rfl hr
    | sh d => exact Rp.keR k V
    | ow d =>
      obtain ⟨b, e, o, w1, w2, q⟩ := V
      refine ⟨b, e, o, w1, w2, q.keR k (upd_ne fun z => ?_)⟩
      obtain ⟨o', ho', _, nf⟩ := q.nofrz
      rw [z, h1] at ho'; cases ho'
      exact nf _ _ rfl
end

/-! ### what is walked -/
structure Src (K : PySem.W.Frag) (J : It) (ds : List D) (B : Addr → Prop) (S : Hp → (Addr → Prop) → Prop) : Prop where
  keep : ∀ H O H' O', S H O → Ke H H' O O' → (∀ b, B b → ∀ o, H b = some o → NT o → H' b = some o) → S H' O'
  go : ∀ i H O d, S H O → ds[i]? = some d → J.go i H ∧ ∀ x H', J.yld i H x H' → (∀ b o, H b = some o → H' b = some o) ∧ Rp K H' O x d
  stop : ∀ H O, S H O → J.stop ds.length H
/-- the dict at d was open at the entry -/
def NF (X : Cx) (d : Addr) : Prop := ∀ o' u', X.H_0 d ≠ some (.frz o' u')
def Thw (X : Cx) (H Hr : Hp) : Prop := Hr = H ∨ ∃ d od u, NF X d ∧ H d = some (.frz od u) ∧ Hr = upd H d u
structure Itm where
  ds : List D
  u : Option Nat
  dc : Bool
structure IP (X : Cx) (ρ : Env) (σ : St) (H : Hp) (O : Addr → Prop) (p : Itm) (ρ1 : Env) (J : It) (H1 : Hp) (O1 : Addr → Prop) (B : Addr → Prop) (S : Hp → (Addr → Prop) → Prop) : Prop where
  re : RE X.K ρ1 σ H1 O1
  s : S H1 O1
  b : ∀ b, B b → ¬ Ow ρ1 σ b ∧ ∃ o, H1 b = some o
  src : Src X.K J p.ds B S
  rl : ∀ ρ' σ' H' O', RE X.K ρ' σ' H' O' → Fr ρ1 σ H1 O1 ρ' σ' H' O' → ∃ Hr, Thw X H' Hr ∧ RE X.K (unl p.u ρ') σ' Hr O' ∧ Fr ρ σ H O (unl p.u ρ') σ' Hr O' ∧ ∀ r v, slotOf r ≠ none → VR X.K ρ' σ' H' O' r v → VR X.K (unl p.u ρ') σ' Hr O' r v
  og : ∀ a, H1 a = none ∨ Ow ρ1 σ a → H a = none ∨ Ow ρ σ a
  fx : p.dc = false → ∀ H', FrX ρ1 σ H1 H' → FrX ρ σ H H'
  ln : p.ds.length ≤ sizeLine
def PostI (X : Cx) (W : WX) (ρ : Env) (σ : St) (H : Hp) (O : Addr → Prop) (Rr : It → Hp → Prop) : Option (R Itm) → Prop
  | none => False
  | some (.er c) => ∀ cls d H', XR X.mg c cls d H' → FrX ρ σ H H' → W cls d σ H'
  | some (.ok p ρ1) => ∀ J H1 O1 B S, IP X ρ σ H O p ρ1 J H1 O1 B S → Rr J H1
def tI (X : Cx) (W : WX) (fi : Ev Itm) : TI := fun σ H Rr => ∃ ρ O, RE X.K ρ σ H O ∧ PostI X W ρ σ H O Rr (fi ρ)
structure VI (X : Cx) (W : WX) (tg it : Expr) (fi : Ev Itm) : Prop where
  pi : PI X tg it (tI X W fi)
theorem PI.imp {X : Cx} {tg it : Expr} {t t' : TI} (h : PI X tg it t) (hi : ∀ σ H Rr, t' σ H Rr → t σ H Rr) : PI X tg it t' := ⟨fun pins s σ H Rr I q => h.run pins s σ H Rr I (hi σ H Rr q)⟩
/-- a target -/
abbrev Tg := D → Env → Option Env
structure VG (X : Cx) (tg : Expr) (is : List Nat) (g : Tg) : Prop where
  pg : PG X tg fun v σ H Q => ∃ ρ O d ρ', RE X.K ρ σ H O ∧ Rp X.K H O v d ∧ g d ρ = some ρ' ∧ ∀ σ', RE X.K ρ' σ' H O → Fr ρ σ H O ρ' σ' H O → σ'.length = σ.length → (∀ j : Nat, j ∉ is → σ'[j]? = σ[j]?) → Q σ' H
def gN (i : Nat) : Tg := fun d ρ => some (ρ.set i (.sh d))
def gT (is : List Nat) : Tg := fun d ρ => match d with
  | .tup ds => if ds.length = is.length then some (setE ρ is ds) else none
  | _ => none
end Lf

set_option Elab.async false
set_option linter.all false
set_option maxRecDepth 100000
/-! Lf, part G: for, while, comprehensions. -/
namespace Lf
open PySem PySem.Spec L2

section
variable {X : Cx} {W : WX} {pos : Pos} {tg it : Expr} {is : List Nat} {g : Tg} {fi : Ev Itm} {body : List Stmt} {fb : Ev Fl}
theorem vg_name (i : Nat) {x : Str} (hN : X.N.Nodup) (hi : X.N[i]? = some x := by rfl) (hx : Loc X.env.scope x := by first | exact Or.inl rfl | exact Or.inr rfl)
    (hf : X.fn x = true ∨ X.env.scope.names.lookup x = some .local := by first | exact .inl rfl | exact .inr rfl) : VG X (.Name x pos) [i] (gN i) := ⟨PG.imp (pg_name hN hi hx hf) fun v σ H Q ⟨ρ, O, d, ρ', E, r, e, q⟩ => by
  cases e
  obtain ⟨E2, F2⟩ := RE.put (i := i) (r := .sh d) (v := v) ⟨E, Fr.refl, r, fun _ _ e => nomatch e⟩ rfl
  exact q _ E2 F2 (by rw [List.length_set]) fun j hj => List.getElem?_set_ne fun e => hj (by rw [e]; exact List.mem_singleton.mpr rfl)⟩
theorem setN_len : ∀ (is : List Nat) (vs : List V) (σ : St), (setN σ is vs).length = σ.length
  | [], _, _ => rfl
  | _ :: _, [], _ => rfl
  | i :: is, v :: vs, σ => by rw [setN, setN_len is vs, List.length_set]
theorem setN_get : ∀ (is : List Nat) (vs : List V) (σ : St) (j : Nat), j ∉ is → (setN σ is vs)[j]? = σ[j]?
  | [], _, _, _, _ => rfl
  | _ :: _, [], _, _, _ => rfl
  | i :: is, v :: vs, σ, j, h => by
    rw [setN, setN_get is vs _ j fun z => h (List.mem_cons_of_mem _ z)]
    exact List.getElem?_set_ne fun e => h (by rw [e]; exact List.mem_cons_self)
theorem vg_tup {ts : List Expr} {k : Nat} (hc : X.calm = true) (hg : PGs X ts (gNames is)) (hn : (assignEach ts X.env).length = is.length := by rfl) (hst : (assignEach ts X.env).findIdx? (·.1) = none := by rfl) : VG X (.Tuple ts k pos) is (gT is) :=
  ⟨PG.imp (pg_tup (n := is.length) hc hg hn hst) fun v σ H Q ⟨ρ, O, d, ρ', E, r, e, q⟩ => by
    unfold gT at e
    split at e
    · rename_i ds
      cases r with
      | @tup a xs _ h1 h2 =>
        by_cases hl : ds.length = is.length
        · rw [if_pos hl] at e
          cases e
          refine ⟨a, xs, rfl, SqT.of h1, by rw [h2.length]; exact hl, by rw [h2.length]; exact hl, ?_⟩
          obtain ⟨E2, F2⟩ := RE.puts (is := is) E h2 Fr.refl
          exact q _ E2 F2 (setN_len _ _ _) (setN_get _ _ _)
        · rw [if_neg hl] at e; cases e
    · cases e⟩

/-! ### for -/
def forF (dc : Bool) (g : Tg) (fb : Ev Fl) : List D → Ev Fl
  | [], ρ => some (.ok .nx ρ)
  | d :: ds, ρ => match g d ρ with
    | none => none
    | some ρ1 => match fb ρ1 with
      | none => none
      | some (.er c) => if dc = true then none else some (.er c)
      | some (.ok .nx ρ2) => forF dc g fb ds ρ2
      | some (.ok (.rt r) ρ2) => some (.ok (.rt r) ρ2)
def sFor (fi : Ev Itm) (g : Tg) (fb : Ev Fl) : Ev Fl := fun ρ => bnd (fi ρ) fun p ρ1 => match forF p.dc g fb p.ds ρ1 with
  | none => none
  | some (.er c) => some (.er c)
  | some (.ok .nx ρ2) => some (.ok .nx (unl p.u ρ2))
  | some (.ok (.rt r) ρ2) => match slotOf r with
    | none => none
    | some _ => some (.ok (.rt r) (unl p.u ρ2))
/-- a statement may leave a dict frozen that was open at the entry -/
theorem ps_thw {st : Stmt} {t : TS} (h : PS X st t) : PS X st fun De σ H => t ⟨fun σ' H' => ∃ Hr, Thw X H' Hr ∧ De.nx σ' Hr, fun v H' => ∃ Hr, Thw X H' Hr ∧ De.rt v Hr, fun σ' H' => ∃ Hr, Thw X H' Hr ∧ De.bk σ' Hr, fun σ' H' => ∃ Hr, Thw X H' Hr ∧ De.ct σ' Hr⟩ σ H := by
  have th : ∀ {pins : List (Addr × Obj)} {σ : St} {H Hr : Hp} {s : Shared}, Thw X H Hr → Inv X pins σ H s → Inv X pins σ Hr s := fun {pins σ H Hr s} w I => by
    rcases w with w | ⟨d, od, u, nf, h, w⟩
    · rw [w]; exact I
    · rw [w]; exact I.unlock h nf
  refine ⟨fun pins s σ H De I hw => ?_⟩
  refine thn (h.run pins s σ _ _ I hw) fun f s1 q => ?_
  cases f with
  | next => obtain ⟨σ', H', I2, Hr, w, q⟩ := q; exact ⟨σ', _, th w I2, q⟩
  | brk => obtain ⟨σ', H', I2, Hr, w, q⟩ := q; exact ⟨σ', _, th w I2, q⟩
  | cont => obtain ⟨σ', H', I2, Hr, w, q⟩ := q; exact ⟨σ', _, th w I2, q⟩
  | ret v => obtain ⟨x, σ', H', I2, r, Hr, w, q⟩ := q; exact ⟨x, σ', _, th w I2, r, q⟩
theorem pe_thw {e : Expr} {t : TE} (h : PE X e t) : PE X e fun σ H Q => t σ H fun v H' => ∃ Hr, Thw X H' Hr ∧ Q v Hr := by
  refine ⟨fun pins s σ H Q I hw => ?_⟩
  refine thn (h.run pins s σ _ _ I hw) fun f s1 q => ?_
  obtain ⟨v, H', I2, r, Hr, w, q⟩ := q
  rcases w with w | ⟨d, od, u, nf, h, w⟩
  · rw [w] at q; exact ⟨v, _, I2, r, q⟩
  · rw [w] at q; exact ⟨v, _, I2.unlock h nf, r, q⟩
/-- what a for's end wants, told from the loop's start -/
def EndF (X : Cx) (W : WX) (dc : Bool) (ρ1 : Env) (σ1 : St) (H1 : Hp) (O1 : Addr → Prop) (De : Ends) : Option (R Fl) → Prop
  | none => False
  | some (.er c) => ∀ cls d σ' H', XR X.mg c cls d H' → FrX ρ1 σ1 H1 H' → W cls d σ' H'
  | some (.ok .nx ρ') => ∀ σ' H' O', RE X.K ρ' σ' H' O' → Fr ρ1 σ1 H1 O1 ρ' σ' H' O' → De.nx σ' H'
  | some (.ok (.rt r) ρ') => ∀ v σ' H' O', RE X.K ρ' σ' H' O' → Fr ρ1 σ1 H1 O1 ρ' σ' H' O' → VR X.K ρ' σ' H' O' r v → (∀ d a, r = .ow d → v = .ref a → H1 a = none ∨ Ow ρ1 σ1 a) → De.rt v H'
theorem EndF.of {dc : Bool} {ρ1 : Env} {σ1 : St} {H1 : Hp} {O1 : Addr → Prop} {De : Ends} : ∀ {m : Option (R Fl)}, EndF X W dc ρ1 σ1 H1 O1 De m → PostS X W ρ1 σ1 H1 O1 De m
  | none, h => h
  | some (.er c), h => h
  | some (.ok .nx ρ'), h => h
  | some (.ok (.rt r) ρ'), h => h
theorem vs_for (hp : PassesOwn (model X.prog X.w) X.A X.env X.xe) (hc : X.calm = true) (hi : VI X W tg it fi) (hg : VG X tg is g) (hb : VSs X W body fb) (hs : ∀ x, foldedSetIterable it X.env x = pure x := by intro _; rfl) :
    VS X W (.For tg it body [] pos) (sFor fi g fb) := ⟨PS.imp (ps_thw (ps_for hp hc hi.pi hg.pg hb.pss hs)) fun De σ H ⟨ρ, O, E, p⟩ => by
  refine ⟨ρ, O, E, ?_⟩
  unfold sFor at p
  cases q : fi ρ with
  | none => rw [q] at p; exact p
  | some m =>
    rw [q] at p
    cases m with
    | er c => exact fun cls d H' x k => p cls d σ H' x k
    | ok im ρ1 =>
      intro J H1 O1 B S P
      have p : PostS X W ρ σ H O De (match forF im.dc g fb im.ds ρ1 with
        | none => none
        | some (.er c) => some (.er c)
        | some (.ok .nx ρ2) => some (.ok .nx (unl im.u ρ2))
        | some (.ok (.rt r) ρ2) => match slotOf r with
          | none => none
          | some _ => some (.ok (.rt r) (unl im.u ρ2))) := p
      -- the end, told from the loop's start
      let De' : Ends := ⟨fun σ' H' => ∃ Hr, Thw X H' Hr ∧ De.nx σ' Hr, fun v H' => ∃ Hr, Thw X H' Hr ∧ De.rt v Hr, fun σ' H' => ∃ Hr, Thw X H' Hr ∧ De.bk σ' Hr, fun σ' H' => ∃ Hr, Thw X H' Hr ∧ De.ct σ' Hr⟩
      have fin : PostS X W ρ1 σ H1 O1 De' (forF im.dc g fb im.ds ρ1) ∧ (im.dc = true → ∀ c, forF im.dc g fb im.ds ρ1 ≠ some (.er c)) := by
        have noer : im.dc = true → ∀ ds ρ c, forF im.dc g fb ds ρ ≠ some (.er c) := fun hd ds => by
          induction ds with
          | nil => intro ρ c h; cases h
          | cons d ds ih =>
            intro ρ c h
            unfold forF at h
            split at h
            · cases h
            · split at h
              · cases h
              · rw [if_pos hd] at h; cases h
              · exact ih _ _ h
              · cases h
        refine ⟨?_, fun hd => noer hd _ _⟩
        cases q2 : forF im.dc g fb im.ds ρ1 with
        | none => rw [q2] at p; exact p
        | some m =>
          rw [q2] at p
          cases m with
          | er c =>
            intro cls d σ' H' x k
            refine p cls d σ' H' x (P.fx ?_ H' k)
            cases hd : im.dc with
            | false => rfl
            | true => exact absurd q2 (noer hd _ _ _)
          | ok fl ρ2 =>
            cases fl with
            | nx =>
              intro σ' H' O' E' F'
              obtain ⟨Hr, w, E2, F2, _⟩ := P.rl ρ2 σ' H' O' E' F'
              exact ⟨Hr, w, p σ' Hr O' E2 F2⟩
            | rt r =>
              intro v σ' H' O' E' F' V og
              obtain ⟨Hr, w, E2, F2, V2⟩ := P.rl ρ2 σ' H' O' E' F'
              have p : PostS X W ρ σ H O De (match slotOf r with
                | none => none
                | some _ => some (.ok (.rt r) (unl im.u ρ2))) := p
              cases q3 : slotOf r with
              | none => rw [q3] at p; exact p.elim
              | some sl =>
                rw [q3] at p
                exact ⟨Hr, w, p v σ' Hr O' E2 F2 (V2 r v (by rw [q3]; simp) V) fun d a e1 e2 => P.og a (og d a e1 e2)⟩
      refine ⟨fun i m σ' H' => m = im.ds.length - i ∧ i ≤ im.ds.length ∧ ∃ ρ' O', RE X.K ρ' σ' H' O' ∧ Fr ρ1 σ H1 O1 ρ' σ' H' O' ∧ S H' O' ∧ PostS X W ρ1 σ H1 O1 De' (forF im.dc g fb (im.ds.drop i) ρ'), ⟨_, rfl, Nat.zero_le _, ρ1, O1, P.re, Fr.refl, P.s, fin.1⟩, ?_⟩
      rintro i m σ' H' ⟨rfl, hi, ρ', O', E', F', s', pf⟩
      by_cases hlt : i < im.ds.length
      · refine .inr ?_
        have hd : im.ds[i]? = some im.ds[i] := List.getElem?_eq_getElem hlt
        obtain ⟨go, yl⟩ := P.src.go i H' O' _ s' hd
        refine ⟨go, fun σ2 H2 => ∃ ρ2 O2, RE X.K ρ2 σ2 H2 O2 ∧ Fr ρ1 σ H1 O1 ρ2 σ2 H2 O2 ∧ S H2 O2 ∧ PostS X W ρ1 σ H1 O1 De' (forF im.dc g fb (im.ds.drop (i + 1)) ρ2), fun σ2 H2 h => ⟨im.ds.length - (i + 1), by omega, rfl, hlt, h⟩, fun x Hx y => ?_⟩
        obtain ⟨kp, rx⟩ := yl x Hx y
        rw [List.drop_eq_getElem_cons hlt] at pf
        -- the source stands whatever a step of ours does
        have stay : ∀ {ρ3 : Env} {σ3 : St} {H3 : Hp} {O3 : Addr → Prop}, Fr ρ1 σ H1 O1 ρ3 σ3 H3 O3 → ∀ b, B b → ¬ Ow ρ3 σ3 b := fun F b hb z => by
          obtain ⟨n, o, ho⟩ := P.b b hb
          rcases F.ow b z with z | z
          · exact n z
          · rw [ho] at z; cases z
        have Ex : RE X.K ρ' σ' Hx O' := E'.ext (fun b o h _ => kp b o h) (fun _ z => .inl z) fun _ z => z
        have Fx : Fr ρ' σ' H' O' ρ' σ' Hx O' := ⟨fun b o h _ _ => kp b o h, fun b o h => ⟨o, kp b o h⟩, fun _ z => .inl z, fun _ _ _ z _ => z, fun _ z => .inl z, fun _ _ z => z, fun _ z => z⟩
        have sx : S Hx O' := P.src.keep H' O' Hx O' s' (Fx.ke E') fun b _ o h _ => kp b o h
        unfold forF at pf
        cases q4 : g im.ds[i] ρ' with
        | none => rw [q4] at pf; exact pf.elim
        | some ρ3 =>
          rw [q4] at pf
          refine ⟨ρ', O', _, ρ3, Ex, rx, q4, fun σ3 E3 F3 _ _ => ?_⟩
          have F13 := (F'.trans Fx).trans F3
          have s3 : S Hx O' := sx
          refine ⟨ρ3, O', E3, ?_⟩
          have pf : PostS X W ρ1 σ H1 O1 De' (match fb ρ3 with
            | none => none
            | some (.er c) => if im.dc = true then none else some (.er c)
            | some (.ok .nx ρ2) => forF im.dc g fb (im.ds.drop (i + 1)) ρ2
            | some (.ok (.rt r) ρ2) => some (.ok (.rt r) ρ2)) := pf
          cases q5 : fb ρ3 with
          | none => rw [q5] at pf; exact pf.elim
          | some m =>
            rw [q5] at pf
            cases m with
            | er c =>
              intro cls d σ4 H4 x k
              have pf : PostS X W ρ1 σ H1 O1 De' (if im.dc = true then none else some (.er c)) := pf
              cases hd : im.dc with
              | true => rw [if_pos hd] at pf; exact pf.elim
              | false =>
                rw [if_neg (by rw [hd]; simp)] at pf
                exact pf cls d σ4 H4 x (FrX.trans F13 k)
            | ok fl ρ4 =>
              cases fl with
              | nx =>
                intro σ4 H4 O4 E4 F4
                exact ⟨ρ4, O4, E4, F13.trans F4, P.src.keep Hx O' H4 O4 s3 (F4.ke E3) fun b hb o h t => F4.kp b o h t (stay F13 b hb), pf⟩
              | rt r =>
                intro v σ4 H4 O4 E4 F4 V og
                refine pf v σ4 H4 O4 E4 (F13.trans F4) V fun d a e1 e2 => ?_
                rcases og d a e1 e2 with z | z
                · refine .inl ?_
                  cases q : H1 a with
                  | none => rfl
                  | some o =>
                    obtain ⟨o', e⟩ := F13.al a o q
                    rw [z] at e; cases e
                · rcases F13.ow a z with z | z
                  · exact .inr z
                  · exact .inl z
      · have e : i = im.ds.length := by omega
        subst e
        refine .inl ⟨P.src.stop H' O' s', ?_⟩
        rw [List.drop_length] at pf
        exact pf σ' H' O' E' F'⟩

/-! ### while -/
def whileF : Nat → Ev Bool → Ev Fl → Ev Fl
  | 0, _, _, _ => none
  | n + 1, c, fb, ρ => bnd (c ρ) fun b ρ1 => if b = true then bnd (fb ρ1) fun fl ρ2 => match fl with
      | .nx => whileF n c fb ρ2
      | .rt r => some (.ok (.rt r) ρ2)
    else some (.ok .nx ρ1)
def sWhile (n : Nat) (c : Ev Bool) (fb : Ev Fl) : Ev Fl := whileF n c fb
theorem vs_while (n : Nat) {ce : Expr} {c : Ev Bool} (hp : PassesOwn (model X.prog X.w) X.A X.env X.xe) (hc : VT X W ce c) (hb : VSs X W body fb) : VS X W (.While ce body [] pos) (sWhile n c fb) := ⟨PS.imp (ps_while hp hc.pt hb.pss) fun De σ H ⟨ρ, O, E, p⟩ => by
  refine ⟨fun m σ' H' => ∃ ρ' O', RE X.K ρ' σ' H' O' ∧ Fr ρ σ H O ρ' σ' H' O' ∧ PostS X W ρ σ H O De (whileF m c fb ρ'), ⟨n, ρ, O, E, Fr.refl, p⟩, ?_⟩
  rintro m σ' H' ⟨ρ', O', E', F', pm⟩
  cases m with
  | zero => exact pm.elim
  | succ m =>
    have base : tT X W c σ' H' (fun b H1 => ∃ ρ1 O1, RE X.K ρ1 σ' H1 O1 ∧ Fr ρ σ H O ρ1 σ' H1 O1 ∧ PostS X W ρ σ H O De (if b = true then bnd (fb ρ1) fun fl ρ2 => match fl with
      | .nx => whileF m c fb ρ2
      | .rt r => some (.ok (.rt r) ρ2)
      else some (.ok .nx ρ1))) := by
      refine ⟨ρ', O', E', ?_⟩
      have pm : PostS X W ρ σ H O De (bnd (c ρ') fun b ρ1 => if b = true then bnd (fb ρ1) fun fl ρ2 => match fl with
        | .nx => whileF m c fb ρ2
        | .rt r => some (.ok (.rt r) ρ2)
        else some (.ok .nx ρ1)) := pm
      cases q : c ρ' with
      | none => rw [q] at pm; exact pm
      | some r =>
        rw [q] at pm
        cases r with
        | er c => exact fun cls d H2 x k => pm cls d σ' H2 x (FrX.trans F' k)
        | ok b ρ1 => exact fun H1 O1 E1 F1 => ⟨ρ1, O1, E1, F'.trans F1, pm⟩
    refine tT.mono (fun b H1 ⟨ρ1, O1, E1, F1, p1⟩ => ?_) base
    cases b with
    | false => exact p1 σ' H1 O1 E1 F1
    | true =>
      refine ⟨fun σ2 H2 => ∃ ρ2 O2, RE X.K ρ2 σ2 H2 O2 ∧ Fr ρ σ H O ρ2 σ2 H2 O2 ∧ PostS X W ρ σ H O De (whileF m c fb ρ2), fun σ2 H2 h => ⟨m, Nat.lt_succ_self _, h⟩, ρ1, O1, E1, ?_⟩
      have p1 : PostS X W ρ σ H O De (bnd (fb ρ1) fun fl ρ2 => match fl with
        | .nx => whileF m c fb ρ2
        | .rt r => some (.ok (.rt r) ρ2)) := p1
      cases q : fb ρ1 with
      | none => rw [q] at p1; exact p1
      | some r =>
        rw [q] at p1
        cases r with
        | er c => exact fun cls d σ2 H2 x k => p1 cls d σ2 H2 x (FrX.trans F1 k)
        | ok fl ρ2 =>
          cases fl with
          | nx => exact fun σ2 H2 O2 E2 F2 => ⟨ρ2, O2, E2, F1.trans F2, p1⟩
          | rt r =>
            intro v σ2 H2 O2 E2 F2 V og
            refine p1 v σ2 H2 O2 E2 (F1.trans F2) V fun d a e1 e2 => ?_
            rcases og d a e1 e2 with z | z
            · refine .inl ?_
              cases q : H a with
              | none => rfl
              | some o =>
                obtain ⟨o', e⟩ := F1.al a o q
                rw [z] at e; cases e
            · rcases F1.ow a z with z | z
              · exact .inr z
              · exact .inl z⟩
end
end Lf

set_option Elab.async false
set_option linter.all false
set_option maxRecDepth 100000
/-! Lf, part H: list comprehensions. -/
namespace Lf
open PySem PySem.Spec L2

def wipeE (ρ : Env) : List Nat → Env
  | [] => ρ
  | i :: vs => (wipeE ρ vs).set i .no
/-- the block's own slots as they were -/
def resE (ρ0 ρ : Env) : List Nat → Env
  | [] => ρ
  | i :: vs => (resE ρ0 ρ vs).set i (ρ0.getD i .no)
def flatSlot : Option Slot → Bool
  | some (Slot.ow _) => false
  | some (Slot.lk _) => false
  | _ => true
def lcF (g : Tg) (ct : Ev Bool) (fe : Ev Val) (vs : List Nat) : List D → Ev (List D)
  | [], ρ => some (.ok [] ρ)
  | d :: ds, ρ => match g d (wipeE ρ vs) with
    | none => none
    | some ρ1 => match ct ρ1 with
      | some (.ok true ρ2) => (match xSh fe ρ2 with
        | some (.ok (.sh y) ρ3) => (match lcF g ct fe vs ds ρ3 with
          | some (.ok ys ρ4) => some (.ok (y :: ys) ρ4)
          | _ => none)
        | _ => none)
      | some (.ok false ρ2) => lcF g ct fe vs ds ρ2
      | _ => none
def xLc (fi : Ev Itm) (g : Tg) (ct : Ev Bool) (fe : Ev Val) (vs : List Nat) : Ev Val := fun ρ => bnd (fi ρ) fun p ρ1 => if vs.all (fun i => flatSlot ρ1[i]?) = true then (match lcF g ct fe vs p.ds ρ1 with
    | some (.ok ys ρ2) => some (.ok (.ow (.lst ys)) (unl p.u (resE ρ1 ρ2 vs)))
    | _ => none) else none
def xYes : Ev Bool := fun ρ => some (.ok true ρ)
abbrev W0 : WX := fun _ _ _ _ => False

theorem wipe_len (ρ : Env) : ∀ vs, (wipeE ρ vs).length = ρ.length
  | [] => rfl
  | i :: vs => by rw [wipeE, List.length_set, wipe_len ρ vs]
theorem wipeE_get (ρ : Env) : ∀ (vs : List Nat) (j : Nat), j ∉ vs → (wipeE ρ vs)[j]? = ρ[j]?
  | [], _, _ => rfl
  | i :: vs, j, h => by
    rw [wipeE, List.getElem?_set_ne (fun e => h (by rw [e]; exact List.mem_cons_self)), wipeE_get ρ vs j fun z => h (List.mem_cons_of_mem _ z)]
theorem wipeE_in (ρ : Env) : ∀ (vs : List Nat) (j : Nat) (x : Slot), j ∈ vs → (wipeE ρ vs)[j]? = some x → x = .no
  | [], _, _, h, _ => by cases h
  | i :: vs, j, x, h, e => by
    rw [wipeE] at e
    rcases get_set e with ⟨_, e⟩ | ⟨n, e⟩
    · exact e
    · rcases List.mem_cons.mp h with h | h
      · exact absurd h n
      · exact wipeE_in ρ vs j x h e
theorem wipe_get (σ : St) : ∀ (vs : List Nat) (j : Nat), j ∉ vs → (wipe σ vs)[j]? = σ[j]?
  | [], _, _ => rfl
  | i :: vs, j, h => by
    rw [wipe, List.getElem?_set_ne (fun e => h (by rw [e]; exact List.mem_cons_self)), wipe_get σ vs j fun z => h (List.mem_cons_of_mem _ z)]
theorem wipe_in (σ : St) : ∀ (vs : List Nat) (j : Nat), j ∈ vs → j < σ.length → (wipe σ vs)[j]? = some none
  | [], _, h, _ => by cases h
  | i :: vs, j, h, hl => by
    rw [wipe, List.getElem?_set]
    by_cases e : i = j
    · rw [if_pos e, if_pos (by rw [wipe_length]; omega)]
    · rw [if_neg e]
      rcases List.mem_cons.mp h with h | h
      · exact absurd h.symm e
      · exact wipe_in σ vs j h hl
theorem wipe_eq {σ σ' : St} {vs : List Nat} (hl : σ'.length = σ.length) (h : ∀ j : Nat, j ∉ vs → σ'[j]? = σ[j]?) : wipe σ' vs = wipe σ vs := by
  refine List.ext_getElem? fun j => ?_
  by_cases hj : j ∈ vs
  · by_cases hlt : j < σ.length
    · rw [wipe_in σ' vs j hj (by omega), wipe_in σ vs j hj hlt]
    · rw [List.getElem?_eq_none (by rw [wipe_length]; omega), List.getElem?_eq_none (by rw [wipe_length]; omega)]
  · rw [wipe_get σ' vs j hj, wipe_get σ vs j hj, h j hj]
theorem resE_len (ρ0 ρ : Env) : ∀ vs, (resE ρ0 ρ vs).length = ρ.length
  | [] => rfl
  | i :: vs => by rw [resE, List.length_set, resE_len ρ0 ρ vs]
theorem resE_get (ρ0 ρ : Env) : ∀ (vs : List Nat) (j : Nat), j ∉ vs → (resE ρ0 ρ vs)[j]? = ρ[j]?
  | [], _, _ => rfl
  | i :: vs, j, h => by
    rw [resE, List.getElem?_set_ne (fun e => h (by rw [e]; exact List.mem_cons_self)), resE_get ρ0 ρ vs j fun z => h (List.mem_cons_of_mem _ z)]
theorem resE_in (ρ0 ρ : Env) : ∀ (vs : List Nat) (j : Nat) (x : Slot), j ∈ vs → (resE ρ0 ρ vs)[j]? = some x → x = ρ0.getD j .no
  | [], _, _, h, _ => by cases h
  | i :: vs, j, x, h, e => by
    rw [resE] at e
    rcases get_set e with ⟨e1, e⟩ | ⟨n, e⟩
    · rw [e, e1]
    · rcases List.mem_cons.mp h with h | h
      · exact absurd h n
      · exact resE_in ρ0 ρ vs j x h e

section
variable {K : PySem.W.Frag} {ρ ρ1 ρ' : Env} {σ σ1 σ' : St} {H H1 H' Hr : Hp} {O O1 O' : Addr → Prop} {vs : List Nat}
theorem wp {j : Nat} {x : Slot} (n : x ≠ .no) (h : (wipeE ρ vs)[j]? = some x) : j ∉ vs ∧ ρ[j]? = some x := by
  by_cases hj : j ∈ vs
  · exact absurd (wipeE_in ρ vs j x hj h) n
  · exact ⟨hj, by rw [← wipeE_get ρ vs j hj]; exact h⟩
theorem wp_ow {b : Addr} (h : Ow (wipeE ρ vs) (wipe σ vs) b) : Ow ρ σ b := by
  obtain ⟨j, d, h1, h2⟩ := h
  obtain ⟨n, h1⟩ := wp (by simp) h1
  rw [wipe_get σ vs j n] at h2
  exact ⟨j, d, h1, h2⟩
theorem wp_lk {j : Nat} {b : Addr} (h : LkAt (wipeE ρ vs) (wipe σ vs) j b) : LkAt ρ σ j b ∧ j ∉ vs := by
  obtain ⟨⟨d, h1⟩, h2⟩ := h
  obtain ⟨n, h1⟩ := wp (by simp) h1
  rw [wipe_get σ vs j n] at h2
  exact ⟨⟨⟨d, h1⟩, h2⟩, n⟩
theorem wp_ol {j : Nat} {b : Addr} (h : OL (wipeE ρ vs) (wipe σ vs) j b) : OL ρ σ j b ∧ j ∉ vs := by
  obtain ⟨⟨d, h1⟩, h2⟩ := h
  rcases h1 with h1 | h1
  · obtain ⟨n, h1⟩ := wp (by simp) h1
    rw [wipe_get σ vs j n] at h2
    exact ⟨⟨⟨d, .inl h1⟩, h2⟩, n⟩
  · obtain ⟨n, h1⟩ := wp (by simp) h1
    rw [wipe_get σ vs j n] at h2
    exact ⟨⟨⟨d, .inr h1⟩, h2⟩, n⟩
theorem RE.wipe (E : RE K ρ σ H O) (vs : List Nat) : RE K (wipeE ρ vs) (wipe σ vs) H O := by
  refine ⟨by rw [wipe_len, wipe_length]; exact E.len, fun j d h => ?_, fun j d h => ?_, fun j d h => ?_, fun j k b h1 h2 => E.inj j k b (wp_ol h1).1 (wp_ol h2).1⟩
  · obtain ⟨n, h⟩ := wp (by simp) h
    rw [wipe_get σ vs j n]; exact E.sh j d h
  · obtain ⟨n, h⟩ := wp (by simp) h
    rw [wipe_get σ vs j n]; exact E.ow j d h
  · obtain ⟨n, h⟩ := wp (by simp) h
    rw [wipe_get σ vs j n]; exact E.lk j d h
theorem Fr.wipe (F : Fr ρ σ H O ρ' σ' H' O') (vs : List Nat) : Fr ρ σ H O (wipeE ρ' vs) (wipe σ' vs) H' O' := ⟨F.kp, F.al, F.sk, F.st, fun b h => F.ow b (wp_ow h), fun j b h => F.lk j b (wp_lk h).1, fun b h => F.z0 b (wp_ol h).1⟩
/-- behind the block the frame's own slots are there again -/
theorem res_ok (E : RE K ρ1 σ H1 O1) (hf : ∀ j ∈ vs, flatSlot ρ1[j]? = true) (E' : RE K (wipeE ρ' vs) (wipe σ vs) H' O') (F : Fr (wipeE ρ1 vs) (wipe σ vs) H1 O1 (wipeE ρ' vs) (wipe σ vs) H' O') :
    RE K (resE ρ1 ρ' vs) σ H' O' ∧ Fr ρ1 σ H1 O1 (resE ρ1 ρ' vs) σ H' O' ∧ (∀ b, Ow (resE ρ1 ρ' vs) σ b → Ow (wipeE ρ' vs) (wipe σ vs) b) ∧ ∀ b, Lk (resE ρ1 ρ' vs) σ b → Lk (wipeE ρ' vs) (wipe σ vs) b := by
  have k := F.ke (E.wipe vs)
  have flat : ∀ {j : Nat} {x : Slot}, (resE ρ1 ρ' vs)[j]? = some x → (j ∉ vs ∧ (wipeE ρ' vs)[j]? = some x) ∨ (j ∈ vs ∧ ((x = .no) ∨ ∃ d, x = .sh d ∧ ρ1[j]? = some (Slot.sh d))) := fun {j x} h => by
    by_cases hj : j ∈ vs
    · refine .inr ⟨hj, ?_⟩
      have e := resE_in ρ1 ρ' vs j x hj h
      have f := hf j hj
      rw [List.getD_eq_getElem?_getD] at e
      cases q : ρ1[j]? with
      | none => rw [q] at e; exact .inl e
      | some s =>
        rw [q] at e f
        have e : x = s := e
        subst e
        cases x with
        | no => exact .inl rfl
        | sh d => exact .inr ⟨d, rfl, rfl⟩
        | ow d => cases f
        | lk d => cases f
    · exact .inl ⟨hj, by rw [wipeE_get ρ' vs j hj, ← resE_get ρ1 ρ' vs j hj]; exact h⟩
  have ow1 : ∀ b, Ow (resE ρ1 ρ' vs) σ b → Ow (wipeE ρ' vs) (L2.wipe σ vs) b := fun b ⟨j, d, h1, h2⟩ => by
    rcases flat h1 with ⟨n, h⟩ | ⟨_, h | ⟨d', h, _⟩⟩
    · exact ⟨j, d, h, by rw [wipe_get σ vs j n]; exact h2⟩
    · cases h
    · cases h
  have lk1 : ∀ j b, LkAt (resE ρ1 ρ' vs) σ j b → LkAt (wipeE ρ' vs) (L2.wipe σ vs) j b := fun j b ⟨⟨d, h1⟩, h2⟩ => by
    rcases flat h1 with ⟨n, h⟩ | ⟨_, h | ⟨d', h, _⟩⟩
    · exact ⟨⟨d, h⟩, by rw [wipe_get σ vs j n]; exact h2⟩
    · cases h
    · cases h
  have ol1 : ∀ j b, OL (resE ρ1 ρ' vs) σ j b → OL (wipeE ρ' vs) (L2.wipe σ vs) j b := fun j b ⟨⟨d, h1⟩, h2⟩ => by
    rcases h1 with h1 | h1
    · rcases flat h1 with ⟨n, h⟩ | ⟨_, h | ⟨d', h, _⟩⟩
      · exact ⟨⟨d, .inl h⟩, by rw [wipe_get σ vs j n]; exact h2⟩
      · cases h
      · cases h
    · rcases flat h1 with ⟨n, h⟩ | ⟨_, h | ⟨d', h, _⟩⟩
      · exact ⟨⟨d, .inr h⟩, by rw [wipe_get σ vs j n]; exact h2⟩
      · cases h
      · cases h
  have hl : ρ'.length = σ.length := by
    have := E'.len
    rw [wipe_len, wipe_length] at this
    exact this
  refine ⟨⟨by rw [resE_len]; exact hl, fun j d h => ?_, fun j d h => ?_, fun j d h => ?_, fun j l b h1 h2 => E'.inj j l b (ol1 j b h1) (ol1 l b h2)⟩, ⟨fun b o h t n => F.kp b o h t fun z => n (wp_ow z), F.al, F.sk, fun b o h q n => F.st b o h q fun z => n (wp_ow z), fun b z => ?_, fun j b z => (wp_lk (F.lk j b (lk1 j b z))).1, fun b z => (wp_ol (F.z0 b (ol1 0 b z))).1⟩, ow1, fun b ⟨j, d, h1, h2⟩ => ?_⟩
  · rcases flat h with ⟨n, h⟩ | ⟨_, h | ⟨d', h, h2⟩⟩
    · rw [← wipe_get σ vs j n]; exact E'.sh j d h
    · cases h
    · cases h
      obtain ⟨v, e, q⟩ := E.sh j d h2
      exact ⟨v, e, q.ke k⟩
  · rcases flat h with ⟨n, h⟩ | ⟨_, h | ⟨d', h, h2⟩⟩
    · rw [← wipe_get σ vs j n]; exact E'.ow j d h
    · cases h
    · cases h
  · rcases flat h with ⟨n, h⟩ | ⟨_, h | ⟨d', h, h2⟩⟩
    · rw [← wipe_get σ vs j n]; exact E'.lk j d h
    · cases h
    · cases h
  · rcases F.ow b (ow1 b z) with z | z
    · exact .inl (wp_ow z)
    · exact .inr z
  · obtain ⟨⟨d', z1⟩, z2⟩ := lk1 j b ⟨⟨d, h1⟩, h2⟩
    exact ⟨j, d', z1, z2⟩
end

section
variable {X : Cx} {W : WX} {pos : Pos} {tg it elt : Expr} {is vs : List Nat} {g : Tg} {fi : Ev Itm} {fe : Ev Val} {ct : Ev Bool}
abbrev gR (X : Cx) (is : List Nat) (g : Tg) : TG := fun v σ H Q => ∃ ρ O d ρ', RE X.K ρ σ H O ∧ Rp X.K H O v d ∧ g d ρ = some ρ' ∧ ∀ σ', RE X.K ρ' σ' H O → Fr ρ σ H O ρ' σ' H O → σ'.length = σ.length → (∀ j : Nat, j ∉ is → σ'[j]? = σ[j]?) → Q σ' H
theorem lc_main {ρ ρ1 ρf : Env} {σ : St} {H H1 : Hp} {O O1 : Addr → Prop} {im : Itm} {J : It} {B : Addr → Prop} {S : Hp → (Addr → Prop) → Prop} {ys : List D} {Q : VK} (his : ∀ i ∈ is, i ∈ vs) (P : IP X ρ σ H O im ρ1 J H1 O1 B S) (hf : vs.all (fun i => flatSlot ρ1[i]?) = true) (hl : lcF g ct fe vs im.ds ρ1 = some (.ok ys ρf))
    (q : ∀ v Hr O', EPost X.K ρ σ H O (.ow (.lst ys)) (unl im.u (resE ρ1 ρf vs)) v Hr O' → Q v Hr) : ∀ D, H1 D = none → ∃ Wv : Nat → Nat → Hp → Prop, (∃ m, Wv 0 m (upd H1 D (.lst []))) ∧ ∀ i m H, Wv i m H →
  (J.stop i H ∧ ∃ Hr, Thw X H Hr ∧ Q (.ref D) Hr) ∨ (J.go i H ∧ ∃ Nx : Hp → Prop, (∀ H', Nx H' → ∃ m', m' < m ∧ Wv (i + 1) m' H') ∧ ∀ x H', J.yld i H x H' → gR X is g x (wipe σ vs) H' fun σ2 H2 => wipe σ2 vs = wipe σ vs ∧ tT X W0 ct σ2 H2 fun b H3 =>
    if b = true then tV X W0 (xSh fe) σ2 H3 fun y H4 => ∃ acc, H4 D = some (.lst acc) ∧ acc.length < sizeLine ∧ Nx (upd H4 D (.lst (acc ++ [y]))) else Nx H3) := by
  intro D hD
  have hD0 : ∀ b o, H1 b = some o → b ≠ D := fun b o h e => by rw [e, hD] at h; cases h
  have E0 : RE X.K (wipeE ρ1 vs) (wipe σ vs) (upd H1 D (.lst [])) (addO O1 D) := (P.re.wipe vs).ext (fun b o h _ => upd_kp hD b o h) (ke_new (o := .lst []) hD).sk fun _ z => .inl z
  -- the state at a turn
  let Inv' : Nat → Hp → Prop := fun i H' => ∃ ρ' O' acc zs rs, RE X.K (wipeE ρ' vs) (wipe σ vs) H' O' ∧ Fr (wipeE ρ1 vs) (wipe σ vs) H1 O1 (wipeE ρ' vs) (wipe σ vs) H' O' ∧ S H' O' ∧ O' D ∧ ¬ Ow (wipeE ρ' vs) (wipe σ vs) D ∧ ¬ Lk (wipeE ρ' vs) (wipe σ vs) D ∧
    H' D = some (.lst acc) ∧ RpAll X.K H' O' acc zs ∧ acc.length ≤ i ∧ lcF g ct fe vs (im.ds.drop i) ρ' = some (.ok rs ρf) ∧ zs ++ rs = ys
  have noOL : ∀ b, (Ow (wipeE ρ1 vs) (wipe σ vs) b ∨ Lk (wipeE ρ1 vs) (wipe σ vs) b) → b ≠ D := fun b z => by
    have : ∃ o, H1 b = some o := by
      rcases z with z | z
      · obtain ⟨i, z⟩ := z.ol
        exact ((P.re.wipe vs).ol z).2.1
      · obtain ⟨i, z⟩ := z.ol
        exact ((P.re.wipe vs).ol z).2.1
    obtain ⟨o, ho⟩ := this
    exact hD0 b o ho
  refine ⟨fun i m H' => m = im.ds.length - i ∧ i ≤ im.ds.length ∧ Inv' i H', ⟨_, rfl, Nat.zero_le _, ρ1, addO O1 D, [], [], ys, E0, ⟨fun b o h _ _ => upd_kp hD b o h, fun b o h => ⟨o, upd_kp hD b o h⟩, (ke_new (o := .lst []) hD).sk, fun _ _ _ z _ => .inl z, fun _ z => .inl z, fun _ _ z => z, fun _ z => z⟩, ?_, .inr rfl, fun z => noOL _ (.inl z) rfl, fun z => noOL _ (.inr z) rfl, upd_same, .nil, Nat.le_refl _, hl, rfl⟩, ?_⟩
  · exact P.src.keep H1 O1 _ _ P.s (ke_new hD) fun b _ o h _ => upd_kp hD b o h
  rintro i m H' ⟨rfl, hi, ρ', O', acc, zs, rs, E', F', s', oD, nw, nl, hacc, ra, hai, hrs, htot⟩
  by_cases hlt : i < im.ds.length
  · refine .inr ?_
    have hd : im.ds[i]? = some im.ds[i] := List.getElem?_eq_getElem hlt
    obtain ⟨go, yl⟩ := P.src.go i H' O' _ s' hd
    refine ⟨go, Inv' (i + 1), fun H2 h => ⟨im.ds.length - (i + 1), by omega, rfl, hlt, h⟩, fun x Hx y => ?_⟩
    obtain ⟨kp, rx⟩ := yl x Hx y
    rw [List.drop_eq_getElem_cons hlt] at hrs
    have stay : ∀ {ρ3 : Env} {σ3 : St} {H3 : Hp} {O3 : Addr → Prop}, Fr (wipeE ρ1 vs) (wipe σ vs) H1 O1 ρ3 σ3 H3 O3 → ∀ b, B b → ¬ Ow ρ3 σ3 b := fun F b hb z => by
      obtain ⟨n, o, ho⟩ := P.b b hb
      rcases F.ow b z with z | z
      · exact n (wp_ow z)
      · rw [ho] at z; cases z
    have Ex : RE X.K (wipeE ρ' vs) (wipe σ vs) Hx O' := E'.ext (fun b o h _ => kp b o h) (fun _ z => .inl z) fun _ z => z
    have Fx : Fr (wipeE ρ' vs) (wipe σ vs) H' O' (wipeE ρ' vs) (wipe σ vs) Hx O' := ⟨fun b o h _ _ => kp b o h, fun b o h => ⟨o, kp b o h⟩, fun _ z => .inl z, fun _ _ _ z _ => z, fun _ z => .inl z, fun _ _ z => z, fun _ z => z⟩
    have sx : S Hx O' := P.src.keep H' O' Hx O' s' (Fx.ke E') fun b _ o h _ => kp b o h
    unfold lcF at hrs
    cases q4 : g im.ds[i] (wipeE ρ' vs) with
    | none => rw [q4] at hrs; cases hrs
    | some ρ3 =>
      rw [q4] at hrs
      refine ⟨_, O', _, ρ3, Ex, rx, q4, fun σ3 E3 F3 l3 g3 => ⟨?_, ?_⟩⟩
      · have e := wipe_eq (vs := vs) l3 fun j hj => g3 j fun z => hj (his j z)
        rw [e]
        refine wipe_eq (wipe_length _ _) fun j hj => wipe_get σ vs j hj
      · have we : wipe σ3 vs = wipe σ vs := by
          rw [wipe_eq (vs := vs) l3 fun j hj => g3 j fun z => hj (his j z)]
          exact wipe_eq (wipe_length _ _) fun j hj => wipe_get σ vs j hj
        have FF := (F'.trans Fx).trans F3
        have hDx : Hx D = some (.lst acc) := kp D _ hacc
        have n3 : ¬ Ow ρ3 σ3 D ∧ ¬ Lk ρ3 σ3 D := ⟨fun z => (F3.ow D z).elim (fun w => nw w) (fun w => by rw [hDx] at w; cases w), fun z => nl (F3.lk' D z)⟩
        have ra3 : RpAll X.K Hx O' acc zs := RpAll.ke (Fx.ke E') ra
        have hrs : (match ct ρ3 with
          | some (.ok true ρ2) => (match xSh fe ρ2 with
            | some (.ok (.sh y) ρ3) => (match lcF g ct fe vs (im.ds.drop (i + 1)) ρ3 with
              | some (.ok ys ρ4) => some (.ok (y :: ys) ρ4)
              | _ => none)
            | _ => none)
          | some (.ok false ρ2) => lcF g ct fe vs (im.ds.drop (i + 1)) ρ2
          | _ => none) = some (R.ok rs ρf) := hrs
        refine ⟨ρ3, O', E3, ?_⟩
        cases q5 : ct ρ3 with
        | none => rw [q5] at hrs; cases hrs
        | some r5 =>
          rw [q5] at hrs
          cases r5 with
          | er c => cases hrs
          | ok b ρ5 =>
            intro H5 O5 E5 F5
            have nD5 : ¬ Ow ρ5 σ3 D ∧ ¬ Lk ρ5 σ3 D := ⟨fun z => (F5.ow D z).elim (fun w => n3.1 w) (fun w => by rw [hDx] at w; cases w), fun z => n3.2 (F5.lk' D z)⟩
            have hD5 : H5 D = some (.lst acc) := F5.kp D _ hDx nt_lst n3.1
            have oD5 : O5 D := F5.st D _ hDx oD n3.1
            have ra5 : RpAll X.K H5 O5 acc zs := RpAll.ke (F5.ke E3) ra3
            have s5 : S H5 O5 := P.src.keep Hx O' H5 O5 sx (F5.ke E3) fun b hb o h t => F5.kp b o h t (stay FF b hb)
            have F15 := FF.trans F5
            cases b with
            | false =>
              rw [if_neg Bool.false_ne_true]
              refine ⟨ρ5, O5, acc, zs, rs, ?_, ?_, s5, oD5, fun z => nD5.1 ?_, fun z => nD5.2 ?_, hD5, ra5, by omega, hrs, htot⟩
              · rw [← we]; exact E5.wipe vs
              · have := F15.wipe vs
                rw [we] at this
                exact this
              · rw [← we] at z; exact wp_ow z
              · rw [← we] at z
                obtain ⟨j, d, z1, z2⟩ := z
                obtain ⟨⟨⟨d', z1⟩, z2⟩, _⟩ := wp_lk (vs := vs) ⟨⟨d, z1⟩, z2⟩
                exact ⟨j, d', z1, z2⟩
            | true =>
              rw [if_pos rfl]
              have hrs : (match xSh fe ρ5 with
                | some (.ok (.sh y) ρ3) => (match lcF g ct fe vs (im.ds.drop (i + 1)) ρ3 with
                  | some (.ok ys ρ4) => some (.ok (y :: ys) ρ4)
                  | _ => none)
                | _ => none) = some (R.ok rs ρf) := hrs
              refine ⟨ρ5, O5, E5, ?_⟩
              cases q6 : xSh fe ρ5 with
              | none => rw [q6] at hrs; cases hrs
              | some r6 =>
                rw [q6] at hrs
                cases r6 with
                | er c => cases hrs
                | ok v6 ρ6 =>
                  cases v6 with
                  | ow d => cases hrs
                  | bw k => cases hrs
                  | sh yd =>
                    have hrs : (match lcF g ct fe vs (im.ds.drop (i + 1)) ρ6 with
                      | some (.ok ys ρ4) => some (.ok (yd :: ys) ρ4)
                      | _ => none) = some (R.ok rs ρf) := hrs
                    intro yv H6 O6 P6
                    have F6 := P6.fr
                    have nD6 : ¬ Ow ρ6 σ3 D ∧ ¬ Lk ρ6 σ3 D := ⟨fun z => (F6.ow D z).elim (fun w => nD5.1 w) (fun w => by rw [hD5] at w; cases w), fun z => nD5.2 (F6.lk' D z)⟩
                    have hD6 : H6 D = some (.lst acc) := F6.kp D _ hD5 nt_lst nD5.1
                    have oD6 : O6 D := F6.st D _ hD5 oD5 nD5.1
                    have ra6 : RpAll X.K H6 O6 acc zs := RpAll.ke (F6.ke E5) ra5
                    have s6 : S H6 O6 := P.src.keep H5 O5 H6 O6 s5 (F6.ke E5) fun b hb o h t => F6.kp b o h t (stay F15 b hb)
                    have F16 := F15.trans F6
                    refine ⟨acc, hD6, Nat.lt_of_lt_of_le (by omega) P.ln, ?_⟩
                    -- the new item is put behind
                    have kD : Ke H6 (upd H6 D (.lst (acc ++ [yv]))) O6 O6 := ⟨fun b o h t n => by
                      rw [upd_ne (fun e => by
                        rw [e] at n h
                        rw [hD6] at h; cases h
                        rcases n with n | ⟨xs, n⟩
                        · exact n oD6
                        · cases n)]
                      exact h, fun b z => .inl z⟩
                    have FD : Fr ρ6 σ3 H6 O6 ρ6 σ3 (upd H6 D (.lst (acc ++ [yv]))) O6 → True := fun _ => trivial
                    cases q7 : lcF g ct fe vs (im.ds.drop (i + 1)) ρ6 with
                    | none => rw [q7] at hrs; cases hrs
                    | some r7 =>
                      rw [q7] at hrs
                      cases r7 with
                      | er c => cases hrs
                      | ok ys7 ρ7 =>
                        cases hrs
                        have E6 : RE X.K ρ6 σ3 (upd H6 D (.lst (acc ++ [yv]))) O6 := P6.re.fr kD fun b z => by
                          have nb : b ≠ D := fun e => by
                            subst e
                            rcases z with z | z
                            · exact nD6.1 z
                            · exact nD6.2 z
                          refine ⟨?_, fun o h _ => by rw [upd_ne nb]; exact h⟩
                          rcases z with z | z
                          · obtain ⟨j, z⟩ := z.ol
                            exact (P6.re.ol z).1
                          · obtain ⟨j, z⟩ := z.ol
                            exact (P6.re.ol z).1
                        have F17 : Fr (wipeE ρ1 vs) (wipe σ vs) H1 O1 ρ6 σ3 (upd H6 D (.lst (acc ++ [yv]))) O6 := ⟨fun b o h t n => by
                          rw [upd_ne (hD0 b o h)]; exact F16.kp b o h t n, fun b o h => by
                          rw [upd_ne (hD0 b o h)]; exact F16.al b o h, F16.sk, F16.st, F16.ow, F16.lk, F16.z0⟩
                        refine ⟨ρ6, O6, acc ++ [yv], zs ++ [yd], ys7, ?_, ?_, ?_, oD6, fun z => nD6.1 ?_, fun z => nD6.2 ?_, upd_same, (ra6.append (.cons P6.vr .nil)).ke kD, by rw [List.length_append, List.length_singleton]; omega, q7, by rw [List.append_assoc]; exact htot⟩
                        · rw [← we]; exact E6.wipe vs
                        · have := F17.wipe vs
                          rw [we] at this
                          exact this
                        · refine P.src.keep H6 O6 _ O6 s6 kD fun b hb o h _ => ?_
                          obtain ⟨_, o', ho'⟩ := P.b b hb
                          rw [upd_ne (hD0 b o' ho')]; exact h
                        · rw [← we] at z; exact wp_ow z
                        · rw [← we] at z
                          obtain ⟨j, d, z1, z2⟩ := z
                          obtain ⟨⟨⟨d', z1⟩, z2⟩, _⟩ := wp_lk (vs := vs) ⟨⟨d, z1⟩, z2⟩
                          exact ⟨j, d', z1, z2⟩
  · have e : i = im.ds.length := by omega
    subst e
    refine .inl ⟨P.src.stop H' O' s', ?_⟩
    rw [List.drop_length] at hrs
    cases hrs
    rw [List.append_nil] at htot
    subst htot
    obtain ⟨E2, F2, w1, w2⟩ := res_ok P.re (fun j hj => List.all_eq_true.mp hf j hj) E' F'
    obtain ⟨Hr, th, E3, F3, V3⟩ := P.rl _ σ H' O' E2 F2
    refine ⟨Hr, th, q (.ref D) Hr O' ⟨E3, F3, V3 (.ow (.lst zs)) (.ref D) (by simp [slotOf]) ⟨D, rfl, oD, fun z => nw (w1 D z), fun z => nl (w2 D z), acc, hacc, ra⟩, fun d a e1 e2 => ?_⟩⟩
    cases e2
    exact P.og D (.inl hD)
theorem ve_lc {scope : Scope} {own : List (Str × Nat)} {ifs : List Expr} (hc : X.calm = true) (hN : X.N.Nodup) (hi : VI X W tg it fi) (ok : BlkOk X.N X.env.scope scope own) (his : ∀ i ∈ is, i ∈ own.map (·.2))
    (hg : ∀ (s : Shared) (H : Hp) (C : Addr) (cl : List (Str × Addr)) (fp : List Addr), VG (X.blk s H scope (compEnvC scope cl C X.env) fp) tg is g)
    (ht : ∀ (s : Shared) (H : Hp) (C : Addr) (cl : List (Str × Addr)) (fp : List Addr), PTs (X.blk s H scope (compEnvC scope cl C X.env) fp) ifs (tT X W0 ct))
    (he : ∀ (s : Shared) (H : Hp) (C : Addr) (cl : List (Str × Addr)) (fp : List Addr), VE (X.blk s H scope (compEnvC scope cl C X.env) fp) W0 elt fe) (hs : ∀ x, foldedSetIterable it X.env x = pure x := by intro _; rfl) :
    VE X W (.ListComp elt [⟨tg, it, ifs, 0⟩] scope pos) (xLc fi g ct fe (own.map (·.2))) :=
  ⟨PE.imp (pe_thw (pe_lc (g := gR X is g) (tt := tT X W0 ct) (te := tV X W0 (xSh fe)) hc hN hi.pi ok (fun s H C cl fp => (hg s H C cl fp).pg) ht (fun s H C cl fp => (ve_sh (he s H C cl fp)).pe) hs)) fun σ H Q ⟨ρ, O, E, p⟩ => by
    refine ⟨ρ, O, E, ?_⟩
    unfold xLc at p
    cases q : fi ρ with
    | none => rw [q] at p; exact p
    | some m =>
      rw [q] at p
      cases m with
      | er c => exact p
      | ok im ρ1 =>
        intro J H1 O1 B S P
        have p : Post X W ρ σ H O Q (if (own.map (·.2)).all (fun i => flatSlot ρ1[i]?) = true then (match lcF g ct fe (own.map (·.2)) im.ds ρ1 with
          | some (.ok ys ρ2) => some (.ok (.ow (.lst ys)) (unl im.u (resE ρ1 ρ2 (own.map (·.2)))))
          | _ => none) else none) := p
        by_cases hf : (own.map (·.2)).all (fun i => flatSlot ρ1[i]?) = true
        · rw [if_pos hf] at p
          cases q2 : lcF g ct fe (own.map (·.2)) im.ds ρ1 with
          | none => rw [q2] at p; exact p.elim
          | some m =>
            rw [q2] at p
            cases m with
            | er c => exact p.elim
            | ok ys ρ2 => exact lc_main his P hf q2 fun v Hr O' P' => p v Hr O' P'
        · rw [if_neg hf] at p; exact p.elim⟩
theorem vs_setLc (i : Nat) {y : Str} {py spos : Pos} {scope : Scope} {own : List (Str × Nat)} {ifs : List Expr} (hc : X.calm = true) (hN : X.N.Nodup) (hi : VI X W tg it fi) (ok : BlkOk X.N X.env.scope scope own) (his : ∀ i ∈ is, i ∈ own.map (·.2))
    (hg : ∀ (s : Shared) (H : Hp) (C : Addr) (cl : List (Str × Addr)) (fp : List Addr), VG (X.blk s H scope (compEnvC scope cl C X.env) fp) tg is g)
    (ht : ∀ (s : Shared) (H : Hp) (C : Addr) (cl : List (Str × Addr)) (fp : List Addr), PTs (X.blk s H scope (compEnvC scope cl C X.env) fp) ifs (tT X W0 ct))
    (he : ∀ (s : Shared) (H : Hp) (C : Addr) (cl : List (Str × Addr)) (fp : List Addr), VE (X.blk s H scope (compEnvC scope cl C X.env) fp) W0 elt fe)
    (hsw : swapsWith (.ListComp elt [⟨tg, it, ifs, 0⟩] scope pos) (some (.Name y py)) spos.line X.env = pure true)
    (hy : X.N[i]? = some y := by rfl) (hyl : X.env.scope.names.lookup y = some .local := by rfl) (hs : ∀ x, foldedSetIterable it X.env x = pure x := by intro _; rfl) :
    VS X W (.Assign [.Name y py] (.ListComp elt [⟨tg, it, ifs, 0⟩] scope pos) spos) (sSet i (xLc fi g ct fe (own.map (·.2)))) :=
  ⟨PS.imp (ps_thw (ps_setLc (g := gR X is g) (tt := tT X W0 ct) (te := tV X W0 (xSh fe)) hc hN hy hyl hsw hi.pi ok (fun s H C cl fp => (hg s H C cl fp).pg) ht (fun s H C cl fp => (ve_sh (he s H C cl fp)).pe) hs)) fun De σ H ⟨ρ, O, E, p⟩ => by
    refine ⟨ρ, O, E, ?_⟩
    unfold sSet xTk xLc at p
    cases q : fi ρ with
    | none => rw [q] at p; exact p
    | some m =>
      rw [q] at p
      cases m with
      | er c => exact fun cls d H' x k => p cls d σ H' x k
      | ok im ρ1 =>
        intro J H1 O1 B S P
        have p : PostS X W ρ σ H O De (bnd (bnd (if (own.map (·.2)).all (fun i => flatSlot ρ1[i]?) = true then (match lcF g ct fe (own.map (·.2)) im.ds ρ1 with
          | some (.ok ys ρ2) => some (.ok (.ow (.lst ys)) (unl im.u (resE ρ1 ρ2 (own.map (·.2)))))
          | _ => none) else none) fun r ρ1 => (take r ρ1).map fun p => .ok p.1 p.2) fun r ρ1 => sPut i r ρ1) := p
        by_cases hf : (own.map (·.2)).all (fun i => flatSlot ρ1[i]?) = true
        · rw [if_pos hf] at p
          cases q2 : lcF g ct fe (own.map (·.2)) im.ds ρ1 with
          | none => rw [q2] at p; exact p.elim
          | some m =>
            rw [q2] at p
            cases m with
            | er c => exact p.elim
            | ok ys ρ2 =>
              have p : PostS X W ρ σ H O De (sPut i (.ow (.lst ys)) (unl im.u (resE ρ1 ρ2 (own.map (·.2))))) := p
              exact lc_main (Q := fun v Hr => De.nx (σ.set i (some v)) Hr) his P hf q2 fun v Hr O' P' => put_ok P' p
        · rw [if_neg hf] at p; exact p.elim⟩
theorem pts_yes : PTs X [] (tT X W0 xYes) := ⟨fun pins s σ H Q I ⟨ρ, O, E, p⟩ => pts_nil.run pins s σ H Q I (p H O E Fr.refl)⟩
theorem pts_if {e : Expr} {Y : Cx} (h : VT Y W0 e ct) (hK : Y.K = X.K := by rfl) (hM : Y.mg = X.mg := by rfl) : PTs Y [e] (tT X W0 ct) := by
  have := pts_one h.pt
  unfold tT PostT at this ⊢
  rw [hK, hM] at this
  exact this
end
end Lf

set_option Elab.async false
set_option linter.all false
set_option maxRecDepth 100000
/-! Lf, part I: what is walked: lists, tuples, dicts, range, zip, enumerate. -/
namespace Lf
open PySem PySem.Spec L2 RZ

section
variable {K : PySem.W.Frag} {ρ ρe ρl ρ' : Env} {σ σ' : St} {H He H' : Hp} {O Oe O' : Addr → Prop} {a : Addr} {u : Option Nat}
inductive LR (ρe : Env) (σ : St) (a : Addr) : Option Nat → Env → Prop
  | free : LR ρe σ a none ρe
  | lock (i : Nat) (d : D) : ρe[i]? = some (Slot.ow d) → σ[i]? = some (some (V.ref a)) → LR ρe σ a (some i) (ρe.set i (.lk d))
theorem LR.facts (E : RE K ρe σ He Oe) (l : LR ρe σ a u ρl) : RE K ρl σ He Oe ∧ (∀ b, Ow ρl σ b → Ow ρe σ b) ∧
    ∀ ρ' σ' H' O', RE K ρ' σ' H' O' → Fr ρl σ He Oe ρ' σ' H' O' → RE K (unl u ρ') σ' H' O' ∧ Fr ρe σ He Oe (unl u ρ') σ' H' O' ∧ ∀ r v, slotOf r ≠ none → VR K ρ' σ' H' O' r v → VR K (unl u ρ') σ' H' O' r v := by
  cases l with
  | free => exact ⟨E, fun _ z => z, fun ρ' σ' H' O' E' F' => ⟨E', F', fun _ _ _ V => V⟩⟩
  | lock i d h1 h2 =>
    obtain ⟨El, w1, w2, w3⟩ := E.lock h1 h2
    refine ⟨El, w1, fun ρ' σ' H' O' E' F' => ?_⟩
    obtain ⟨E2, F2, w⟩ := unl_ok E h1 E' F'
    refine ⟨E2, F2, fun r v hr V => ?_⟩
    cases r with
    | bw k => exact absurd rfl hr
    | sh d => exact V
    | ow d =>
      obtain ⟨b, e, o, n1, n2, q⟩ := V
      refine ⟨b, e, o, fun z => ?_, fun ⟨j, d', z1, z2⟩ => ?_, q⟩
      · rcases w b z with z | z
        · exact n1 z
        · exact n2 z
      · refine n2 ?_
        unfold unl at z1
        dsimp only at z1
        split at z1
        · rcases get_set z1 with ⟨_, z⟩ | ⟨_, z⟩
          · cases z
          · exact ⟨j, d', z, z2⟩
        · exact ⟨j, d', z1, z2⟩
theorem og_of {X : Cx} {r : Val} {v : V} (F : Fr ρ σ H O ρe σ He Oe) : ∀ b, He b = none ∨ Ow ρe σ b → H b = none ∨ Ow ρ σ b := fun b z => by
  rcases z with z | z
  · refine .inl ?_
    cases q : H b with
    | none => rfl
    | some o =>
      obtain ⟨o', e⟩ := F.al b o q
      rw [z] at e; cases e
  · rcases F.ow b z with z | z
    · exact .inr z
    · exact .inl z
end
section
variable {X : Cx} {W : WX} {ρ ρe ρl : Env} {σ : St} {H He : Hp} {O Oe : Addr → Prop} {a : Addr} {u : Option Nat} {ds : List D} {J : It} {B : Addr → Prop} {S : Hp → (Addr → Prop) → Prop}
theorem ip_plain {dc : Bool} (E : RE X.K ρe σ He Oe) (F : Fr ρ σ H O ρe σ He Oe) (l : LR ρe σ a u ρl) (s : S He Oe) (hb : ∀ b, B b → ¬ Ow ρl σ b ∧ ∃ o, He b = some o) (src : Src X.K J ds B S) (ln : ds.length ≤ sizeLine) : IP X ρ σ H O ⟨ds, u, dc⟩ ρl J He Oe B S := by
  obtain ⟨El, w, fl⟩ := l.facts E
  refine ⟨El, s, hb, src, fun ρ' σ' H' O' E' F' => ?_, fun b z => og_of (X := X) (r := .sh .non) (v := .non) F b (z.imp id (w b)), fun _ H' k => FrX.trans F fun b o h t n => k b o h t fun z => n (w b z), ln⟩
  obtain ⟨E2, F2, V2⟩ := fl ρ' σ' H' O' E' F'
  exact ⟨H', .inl rfl, E2, F.trans F2, V2⟩
theorem ip_frz {w : HO} {od : Obj} (E : RE X.K ρe σ He Oe) (F : Fr ρ σ H O ρe σ He Oe) (l : LR ρe σ a u ρl) (n : ¬ Ow ρl σ a) (h : He a = some w) (nu : (∃ xs, w = .dK xs) ∨ ∃ xs, w = .dT xs) (nf : NF X a) (s : S (upd He a (.frz od w)) Oe) (src : Src X.K J ds (fun b => b = a) S) (ln : ds.length ≤ sizeLine) :
    IP X ρ σ H O ⟨ds, u, true⟩ ρl J (upd He a (.frz od w)) Oe (fun b => b = a) S := by
  obtain ⟨El, w1, fl⟩ := l.facts E
  refine ⟨frz_ok El h nu n, s, fun b e => by rw [e]; exact ⟨n, _, upd_same⟩, src, fun ρ' σ' H' O' E' F' => ?_, fun b z => ?_, (fun e => by cases e), ln⟩
  · obtain ⟨h1, E2, F2, V2⟩ := thw_ok h nu n E' F'
    obtain ⟨E3, F3, V3⟩ := fl ρ' σ' _ O' E2 F2
    exact ⟨_, .inr ⟨a, od, w, nf, h1, rfl⟩, E3, F.trans F3, fun r v hr V => V3 r v hr (V2 r v hr V)⟩
  · refine og_of (X := X) (r := .sh .non) (v := .non) F b ?_
    rcases z with z | z
    · refine .inl ?_
      by_cases e : b = a
      · rw [e, upd_same] at z; cases z
      · rw [upd_ne e] at z; exact z
    · exact .inr (w1 b z)

/-! ### sources -/
theorem src_lst {a : Addr} {xs : List V} : Src X.K (Itl X.K a) ds (fun b => b = a) (fun H O => Rd H a (.lst xs) ∧ RpAll X.K H O xs ds) where
  keep := fun H O H' O' ⟨s, r⟩ k st => ⟨Rd.stay nt_lst (fun o h t => st a rfl o h t) s, r.ke k⟩
  go := fun i H O d ⟨s, r⟩ e => by
    obtain ⟨v, hv, rv⟩ := r.get e
    refine ⟨⟨xs, v, .inl s, hv⟩, fun x H' ⟨e1, y⟩ => ?_⟩
    subst e1
    have := y xs (.inl s)
    rw [hv] at this; cases this
    exact ⟨fun _ _ h => h, rv⟩
  stop := fun H O ⟨s, r⟩ => ⟨xs, .inl s, by rw [r.length]; exact Nat.le_refl _⟩
theorem src_lstK {a : Addr} {xs : List V} (k : KL X.K a xs) : Src X.K (Itl X.K a) ds (fun _ => False) (fun H O => RpAll X.K H O xs ds) where
  keep := fun H O H' O' r k st => r.ke k
  go := fun i H O d r e => by
    obtain ⟨v, hv, rv⟩ := r.get e
    refine ⟨⟨xs, v, .inr k, hv⟩, fun x H' ⟨e1, y⟩ => ?_⟩
    subst e1
    have := y xs (.inr k)
    rw [hv] at this; cases this
    exact ⟨fun _ _ h => h, rv⟩
  stop := fun H O r => ⟨xs, .inr k, by rw [r.length]; exact Nat.le_refl _⟩
theorem src_tup {a : Addr} {xs : List V} : Src X.K (Itt X.K a) ds (fun _ => False) (fun H O => H a = some (.tup xs) ∧ RpAll X.K H O xs ds) where
  keep := fun H O H' O' ⟨s, r⟩ k st => ⟨k.kp _ _ s nt_tup (.inr ⟨_, rfl⟩), r.ke k⟩
  go := fun i H O d ⟨s, r⟩ e => by
    obtain ⟨v, hv, rv⟩ := r.get e
    refine ⟨⟨xs, v, SqT.of s, hv⟩, fun x H' ⟨e1, y⟩ => ?_⟩
    subst e1
    have := y xs (SqT.of s)
    rw [hv] at this; cases this
    exact ⟨fun _ _ h => h, rv⟩
  stop := fun H O ⟨s, r⟩ => ⟨xs, SqT.of s, by rw [r.length]; exact Nat.le_refl _⟩
def dkItems (kvs : List (Int × V)) : List D := kvs.map fun p => .int p.1
def dtItems (kvs : List (List Int × V)) : List D := kvs.map fun p => .tup (p.1.map .int)
theorem src_dk {a : Addr} {od : Obj} {kvs : List (Int × V)} : Src X.K (Itk a od (kvs.map kI)) (dkItems kvs) (fun b => b = a) (fun H _ => H a = some (.frz od (.dK (kvs.map kI)))) where
  keep := fun H O H' O' s k st => st a rfl _ s nt_frz
  go := fun i H O d s e => by
    have hl : i < kvs.length := by
      have := (List.getElem?_eq_some_iff.mp e).1
      unfold dkItems at this
      rw [List.length_map] at this
      exact this
    refine ⟨⟨s, by rw [List.length_map]; exact hl⟩, fun x H' ⟨e1, k, v, h, ex⟩ => ?_⟩
    subst e1
    unfold dkItems at e
    rw [List.getElem?_map] at e h
    cases q : kvs[i]? with
    | none => rw [q] at e; cases e
    | some p =>
      rw [q] at e h
      cases e
      cases h
      subst ex
      exact ⟨fun _ _ h => h, .int _⟩
  stop := fun H O s => ⟨s, by unfold dkItems; rw [List.length_map, List.length_map]; exact Nat.le_refl _⟩
theorem ints_kV : ∀ ks : List Int, (ks.map (Sum.inl : Int → Key)).map kV = ks.map V.int
  | [] => rfl
  | k :: ks => by
    show V.int k :: _ = V.int k :: _
    exact congrArg _ (ints_kV ks)
theorem src_dt {a : Addr} {od : Obj} {kvs : List (List Int × V)} : Src X.K (Itkt a od (kvs.map kT)) (dtItems kvs) (fun b => b = a) (fun H _ => H a = some (.frz od (.dT (kvs.map kT)))) where
  keep := fun H O H' O' s k st => st a rfl _ s nt_frz
  go := fun i H O d s e => by
    have hl : i < kvs.length := by
      have := (List.getElem?_eq_some_iff.mp e).1
      unfold dtItems at this
      rw [List.length_map] at this
      exact this
    refine ⟨⟨s, by rw [List.length_map]; exact hl⟩, fun x H' ⟨e1, k, v, q', h, ex, hq⟩ => ?_⟩
    subst e1
    unfold dtItems at e
    rw [List.getElem?_map] at e h
    cases q : kvs[i]? with
    | none => rw [q] at e; cases e
    | some p =>
      rw [q] at e h
      cases e
      cases h
      subst ex
      refine ⟨fun _ _ h => h, .tup hq ?_⟩
      rw [ints_kV]
      exact RpAll.ints.mpr rfl
  stop := fun H O s => ⟨s, by unfold dtItems; rw [List.length_map, List.length_map]; exact Nat.le_refl _⟩

/-! ### any expression walked -/
def itemsOf : D → Option (List D × Bool)
  | .lst ds => some (ds, false)
  | .tup ds => some (ds, false)
  | .dk kvs => some (dkItems kvs, true)
  | .dt kvs => some (dtItems kvs, true)
  | _ => none
def iAny (X : Cx) (tl : TE) : TI := fun σ H Rr => tl σ H fun x H1 =>
  (∃ a xs, x = .ref a ∧ SqL X.K H1 a xs ∧ (xs.length ≤ sizeLine → Rr (Itl X.K a) H1)) ∨
  (∃ a xs, x = .ref a ∧ H1 a = some (.tup xs) ∧ (xs.length ≤ sizeLine → Rr (Itt X.K a) H1)) ∨
  (∃ a kvs, x = .ref a ∧ H1 a = some (.dK kvs) ∧ ∀ od, NF X a → kvs.length ≤ sizeLine → Rr (Itk a od kvs) (upd H1 a (.frz od (.dK kvs)))) ∨
  (∃ a kvs, x = .ref a ∧ H1 a = some (.dT kvs) ∧ ∀ od, NF X a → kvs.length ≤ sizeLine → Rr (Itkt a od kvs) (upd H1 a (.frz od (.dT kvs)))) ∨
  (∃ a o kvs, x = .ref a ∧ H1 a = some (.frz o (.dK kvs)) ∧ (kvs.length ≤ sizeLine → Rr (Itk a o kvs) H1)) ∨
  ∃ a o kvs, x = .ref a ∧ H1 a = some (.frz o (.dT kvs)) ∧ (kvs.length ≤ sizeLine → Rr (Itkt a o kvs) H1)
theorem pi_any {tg e : Expr} {tl : TE} (hl : PE X e tl) : PI X tg e (iAny X tl) := by
  refine ⟨fun pins s σ H Rr I h => ?_⟩
  refine thn (hl.run pins s σ H _ I h) fun v s1 ⟨x, H1, I1, r1, q1⟩ => ?_
  have keysK : ∀ {d : Addr} {o : Obj} {kvs : List (Key × V)} {H2 : Hp}, Inv X pins σ H2 s1 → H2 d = some (.frz o (.dK kvs)) → (kvs.length ≤ sizeLine → Rr (Itk d o kvs) H2) → wpAny (model X.prog X.w) X.A (pyIter (.ref d)) (PIE X pins σ tg Rr) X.xe s1 := fun {d o kvs H2} I1 hd q => by
    obtain ⟨hs, hgd, hx, es, ep, vs, hdt, hsz, kv, hm⟩ := I1.frzK hd
    have ln : kvs.length ≤ sizeLine := (I1.hok d _ hd).2.1
    refine iter_keys hs hgd hx hdt (pi_one (tk := s1.toks) I1 _ (turn_keys _ hdt) ⟨_, Heap.get?_push_size _ rfl, rfl, ?_⟩ (q ln))
    rw [hsz] <;> rfl
  have keysT : ∀ {d : Addr} {o : Obj} {kvs : List (List Key × V)} {H2 : Hp}, Inv X pins σ H2 s1 → H2 d = some (.frz o (.dT kvs)) → (kvs.length ≤ sizeLine → Rr (Itkt d o kvs) H2) → wpAny (model X.prog X.w) X.A (pyIter (.ref d)) (PIE X pins σ tg Rr) X.xe s1 := fun {d o kvs H2} I1 hd q => by
    obtain ⟨hs, hgd, hx, es, ep, hdt, hsz, ent⟩ := I1.frzT hd
    have ln : kvs.length ≤ sizeLine := (I1.hok d _ hd).2.1
    refine iter_keys hs hgd hx hdt (pi_one (tk := s1.toks) I1 _ (turn_keysT _ hdt) ⟨_, Heap.get?_push_size _ rfl, rfl, ?_⟩ (q ln))
    rw [hsz] <;> rfl
  rcases q1 with ⟨a, xs, e, hq, q⟩ | ⟨a, xs, e, hq, q⟩ | ⟨a, kvs, e, hq, q⟩ | ⟨a, kvs, e, hq, q⟩ | ⟨a, o, kvs, e, hq, q⟩ | ⟨a, o, kvs, e, hq, q⟩
  · subst e
    cases r1
    obtain ⟨its, rv, p, hz⟩ := I1.list hq
    exact wpAny_pyIter_list p.isList (pi_one (tk := s1.toks) I1 _ (turn_list a _) ⟨_, Heap.get?_push_size _ rfl, rfl, rfl⟩ (q hz))
  · subst e
    cases r1
    obtain ⟨its, rv, p, hz⟩ := I1.tuple (SqT.of hq)
    exact wpAny_pyIter_tuple (show s1.heap.IsTuple a its.toArray from p) (pi_one (tk := s1.toks) I1 _ (turn_tuple a _) ⟨_, Heap.get?_push_size _ rfl, rfl, rfl⟩ (q hz))
  · subst e
    cases r1
    obtain ⟨od, I2⟩ := I1.lock hq trivial
    exact keysK I2 upd_same (q od (I1.nofrz hq trivial))
  · subst e
    cases r1
    obtain ⟨od, I2⟩ := I1.lock hq trivial
    exact keysT I2 upd_same (q od (I1.nofrz hq trivial))
  · subst e
    cases r1
    exact keysK I1 hq q
  · subst e
    cases r1
    exact keysT I1 hq q
/-- what is walked, told by its content -/
theorem any_ok {Rr : It → Hp → Prop} {v : V} {d : D} {dc : Bool} (E : RE X.K ρe σ He Oe) (F : Fr ρ σ H O ρe σ He Oe) (l : ∀ a, v = .ref a → LR ρe σ a u ρl) (hr : Rp X.K He Oe v d ∨ ∃ a, v = .ref a ∧ ObR X.K He Oe a d ∧ ¬ Ow ρl σ a) (hi : itemsOf d = some (ds, dc))
    (p : ∀ J H1 O1 B S, IP X ρ σ H O ⟨ds, u, dc⟩ ρl J H1 O1 B S → Rr J H1) :
    (∃ a xs, v = .ref a ∧ SqL X.K He a xs ∧ (xs.length ≤ sizeLine → Rr (Itl X.K a) He)) ∨
    (∃ a xs, v = .ref a ∧ He a = some (.tup xs) ∧ (xs.length ≤ sizeLine → Rr (Itt X.K a) He)) ∨
    (∃ a kvs, v = .ref a ∧ He a = some (.dK kvs) ∧ ∀ od, NF X a → kvs.length ≤ sizeLine → Rr (Itk a od kvs) (upd He a (.frz od (.dK kvs)))) ∨
    (∃ a kvs, v = .ref a ∧ He a = some (.dT kvs) ∧ ∀ od, NF X a → kvs.length ≤ sizeLine → Rr (Itkt a od kvs) (upd He a (.frz od (.dT kvs)))) ∨
    (∃ a o kvs, v = .ref a ∧ He a = some (.frz o (.dK kvs)) ∧ (kvs.length ≤ sizeLine → Rr (Itk a o kvs) He)) ∨
    ∃ a o kvs, v = .ref a ∧ He a = some (.frz o (.dT kvs)) ∧ (kvs.length ≤ sizeLine → Rr (Itkt a o kvs) He) := by
  have sh : ∀ a, v = .ref a → ¬ Oe a → ¬ Ow ρl σ a := fun a e n z => n (E.owO ((l a e).facts E |>.2.1 a z))
  cases d with
  | lst ds' =>
    cases hi
    have go : ∀ a xs, v = .ref a → Rd He a (.lst xs) → RpAll X.K He Oe xs ds → ¬ Ow ρl σ a → xs.length ≤ sizeLine → Rr (Itl X.K a) He := fun a xs e hs ra n ln =>
      p _ _ _ _ _ (ip_plain E F (l a e) ⟨hs, ra⟩ (fun b e => by rw [e]; exact ⟨n, Rd.ex hs⟩) src_lst (by rw [← ra.length]; exact ln))
    rcases hr with hr | ⟨a, e, ⟨xs, hs, ra⟩, n⟩
    · cases hr with
      | @lst a xs _ hs n ra => exact .inl ⟨a, xs, rfl, .inl hs, go a xs rfl hs ra (sh a rfl n)⟩
      | @lstK a xs _ hs ra => exact .inl ⟨a, xs, rfl, .inr hs, fun ln => p _ _ _ _ _ (ip_plain E F (l a rfl) ra (fun b e => e.elim) (src_lstK hs) (by rw [← ra.length]; exact ln))⟩
    · exact .inl ⟨a, xs, e, .inl hs, go a xs e hs ra n⟩
  | tup ds' =>
    cases hi
    rcases hr with hr | ⟨a, e, hs, n⟩
    · cases hr with
      | @tup a xs _ hs ra => exact .inr (.inl ⟨a, xs, rfl, hs, fun ln => p _ _ _ _ _ (ip_plain E F (l a rfl) ⟨hs, ra⟩ (fun b e => e.elim) src_tup (by rw [← ra.length]; exact ln))⟩)
    · exact hs.elim
  | dk kvs =>
    cases hi
    obtain ⟨a, e, hs, n⟩ : ∃ a, v = .ref a ∧ Rd He a (.dK (kvs.map kI)) ∧ ¬ Ow ρl σ a := by
      rcases hr with hr | ⟨a, e, hs, n⟩
      · cases hr with
        | @dk a _ hs n => exact ⟨a, rfl, hs, sh a rfl n⟩
      · exact ⟨a, e, hs, n⟩
    rcases hs with hs | ⟨o, hs⟩
    · exact .inr (.inr (.inl ⟨a, _, e, hs, fun od nf ln => p _ _ _ _ _ (ip_frz E F (l a e) n hs (.inl ⟨_, rfl⟩) nf upd_same src_dk (by unfold dkItems; rw [List.length_map] at ln ⊢; exact ln))⟩))
    · exact .inr (.inr (.inr (.inr (.inl ⟨a, o, _, e, hs, fun ln => p _ _ _ _ _ (ip_plain E F (l a e) hs (fun b e => by rw [e]; exact ⟨n, _, hs⟩) src_dk (by unfold dkItems; rw [List.length_map] at ln ⊢; exact ln))⟩))))
  | dt kvs =>
    cases hi
    obtain ⟨a, e, hs, n⟩ : ∃ a, v = .ref a ∧ Rd He a (.dT (kvs.map kT)) ∧ ¬ Ow ρl σ a := by
      rcases hr with hr | ⟨a, e, hs, n⟩
      · cases hr with
        | @dt a _ hs n => exact ⟨a, rfl, hs, sh a rfl n⟩
      · exact ⟨a, e, hs, n⟩
    rcases hs with hs | ⟨o, hs⟩
    · exact .inr (.inr (.inr (.inl ⟨a, _, e, hs, fun od nf ln => p _ _ _ _ _ (ip_frz E F (l a e) n hs (.inr ⟨_, rfl⟩) nf upd_same src_dt (by unfold dtItems; rw [List.length_map] at ln ⊢; exact ln))⟩)))
    · exact .inr (.inr (.inr (.inr (.inr ⟨a, o, _, e, hs, fun ln => p _ _ _ _ _ (ip_plain E F (l a e) hs (fun b e => by rw [e]; exact ⟨n, _, hs⟩) src_dt (by unfold dtItems; rw [List.length_map] at ln ⊢; exact ln))⟩))))
  | _ => cases hi
/-- a value evaluated is walked: how its slot is locked -/
def lockV (r : Val) (ρ : Env) : Option (D × Option Nat × Env) := match r with
  | .sh d => some (d, none, ρ)
  | .ow d => some (d, none, ρ)
  | .bw i => match ρ[i]? with
    | some (Slot.ow d) => some (d, some i, ρ.set i (.lk d))
    | some (Slot.lk d) => some (d, none, ρ)
    | _ => none
theorem lockV_ok {r : Val} {v : V} {d : D} (P : EPost X.K ρ σ H O r ρe v He Oe) (h : lockV r ρe = some (d, u, ρl)) : (∀ a, v = .ref a → LR ρe σ a u ρl) ∧ (Rp X.K He Oe v d ∨ ∃ a, v = .ref a ∧ ObR X.K He Oe a d ∧ ¬ Ow ρl σ a) := by
  cases r with
  | sh d' =>
    cases h
    exact ⟨fun a _ => .free, .inl P.vr⟩
  | ow d' =>
    cases h
    obtain ⟨a, e, oa, nw, nl, ob⟩ := P.vr
    exact ⟨fun a _ => .free, .inr ⟨a, e, ob.r, nw⟩⟩
  | bw i =>
    have hv : σ[i]? = some (some v) := P.vr
    have h : (match ρe[i]? with
      | some (Slot.ow d) => some (d, some i, ρe.set i (.lk d))
      | some (Slot.lk d) => some (d, none, ρe)
      | _ => none) = some (d, u, ρl) := h
    cases q1 : ρe[i]? with
    | none => rw [q1] at h; cases h
    | some sl =>
      rw [q1] at h
      cases sl with
      | no => cases h
      | sh d => cases h
      | ow d =>
        cases h
        obtain ⟨a, e1, oa, ob⟩ := P.re.ow i _ q1
        rw [hv] at e1; cases e1
        exact ⟨fun b eb => by cases eb; exact .lock i _ q1 hv, .inr ⟨a, rfl, ob.r, (P.re.lock q1 hv).2.2.1⟩⟩
      | lk d =>
        cases h
        obtain ⟨a, e1, oa, ob⟩ := P.re.lk i _ q1
        rw [hv] at e1; cases e1
        refine ⟨fun b eb => .free, .inr ⟨a, rfl, ob, fun ⟨j, d', w1, w2⟩ => ?_⟩⟩
        have e := P.re.inj j i a ⟨⟨d', .inl w1⟩, w2⟩ ⟨⟨_, .inr q1⟩, hv⟩
        subst e
        rw [q1] at w1; cases w1
def xIt (f : Ev Val) : Ev Itm := fun ρ => bnd (f ρ) fun r ρ1 => (lockV r ρ1).bind fun z => (itemsOf z.1).map fun p => .ok ⟨p.1, z.2.1, p.2⟩ z.2.2
theorem vi_any {tg e : Expr} {f : Ev Val} (h : VE X W e f) : VI X W tg e (xIt f) := ⟨PI.imp (pi_any h.pe) fun σ H Rr ⟨ρ, O, E, p⟩ => by
  refine ⟨ρ, O, E, ?_⟩
  unfold xIt at p
  cases q : f ρ with
  | none => rw [q] at p; exact p
  | some m =>
    rw [q] at p
    cases m with
    | er c => exact p
    | ok r ρ1 =>
      intro v H1 O1 P
      have p : PostI X W ρ σ H O Rr ((lockV r ρ1).bind fun z => (itemsOf z.1).map fun p => .ok ⟨p.1, z.2.1, p.2⟩ z.2.2) := p
      cases q1 : lockV r ρ1 with
      | none => rw [q1] at p; exact p.elim
      | some z =>
        obtain ⟨d, u, ρl⟩ := z
        rw [q1] at p
        have p : PostI X W ρ σ H O Rr ((itemsOf d).map fun p => .ok ⟨p.1, u, p.2⟩ ρl) := p
        cases q2 : itemsOf d with
        | none => rw [q2] at p; exact p.elim
        | some z =>
          rw [q2] at p
          obtain ⟨l, hr⟩ := lockV_ok P q1
          exact any_ok P.re P.fr l hr q2 p⟩
/-- range(n) -/
def rangeD (n : Nat) : List D := (List.range n).map fun (i : Nat) => D.int (i : Int)
def xRng (f : Ev (List Val)) : Ev Itm := fun ρ => bnd (f ρ) fun rs ρ1 => match rdAll ρ1 rs with
  | some [.int j] => if -1000 ≤ j ∧ j ≤ 16777216 then some (.ok ⟨rangeD j.toNat, none, false⟩ ρ1) else none
  | _ => none
theorem src_rng {n : Nat} : Src X.K (Itr 0 n) (rangeD n) (fun _ => False) (fun _ _ => True) where
  keep := fun _ _ _ _ _ _ _ => trivial
  go := fun i H O d _ e => by
    unfold rangeD at e
    rw [List.getElem?_map] at e
    have hl : i < n := by
      by_cases h : i < n
      · exact h
      · rw [List.getElem?_eq_none (by simpa using Nat.le_of_not_lt h)] at e; cases e
    rw [List.getElem?_range hl] at e
    cases e
    refine ⟨hl, fun x H' ⟨e1, e2⟩ => ?_⟩
    subst e1 e2
    refine ⟨fun _ _ h => h, ?_⟩
    rw [Int.zero_add]
    exact .int _
  stop := fun H O _ => by show n ≤ _; unfold rangeD; rw [List.length_map, List.length_range]; exact Nat.le_refl _
theorem pi_rng {tg a : Expr} {ta : TA} {p pos : Pos} (hg : Gl X "range") (hm : X.mg "range" = none) (ha : PA X [a] ta) (hs : starEach [a] X.env = [(false, eval a X.env)] := by rfl) : PI X tg (.Call (.Name "range" p) [a] [] pos) (fun σ H R => ta σ H fun vs H1 => ∃ j : Int, vs = [.int j] ∧ (-1000 ≤ j ∧ j ≤ 16777216) ∧ R (Itr 0 j.toNat) H1) := by
  refine ⟨fun pins s σ H R I h => ?_⟩
  refine PyProof.Rows.Call_ (ld_blt I hg hm PyProof.Rows.boot_range (PyProof.Rows.callWith_type1 (thn (ha.run pos pins s σ H _ I h) fun us s1 ⟨vs, H1, I1, r1, q1⟩ => ?_) hs rfl))
  obtain ⟨j, e, q1, q⟩ := q1
  subst e
  cases r1 with
  | cons r rr =>
    cases rr
    obtain ⟨t, rfl⟩ := r
    exact call_range_1 (range_it I1 (by omega) (by omega) (by omega) (by omega) (by simpa using q))
theorem tB_bndI {g : Ev (List Val)} {k : List Val → Env → Option (R Itm)} {Rr : It → Hp → Prop} (E : RE X.K ρ σ H O) (h : PostI X W ρ σ H O Rr (bnd (g ρ) k)) :
    tB' X W g σ H fun vs H1 => ∃ rs ρ1 O1, RE X.K ρ1 σ H1 O1 ∧ Fr ρ σ H O ρ1 σ H1 O1 ∧ VRAll X.K ρ1 σ H1 O1 rs vs ∧ PostI X W ρ σ H O Rr (k rs ρ1) := by
  refine ⟨ρ, O, E, ?_⟩
  cases q : g ρ with
  | none => rw [q] at h; exact h
  | some m =>
    rw [q] at h
    cases m with
    | er c => exact h
    | ok r ρ1 => exact fun vs H1 O1 E1 F R => ⟨r, ρ1, O1, E1, F, R, h⟩
theorem vi_range {tg a : Expr} {g : Ev (List Val)} {p pos : Pos} (hg : Gl X "range") (hm : X.mg "range" = none) (ha : VB X W [a] g) (hs : starEach [a] X.env = [(false, eval a X.env)] := by rfl) : VI X W tg (.Call (.Name "range" p) [a] [] pos) (xRng g) := ⟨PI.imp (pi_rng hg hm ha.pa hs) fun σ H Rr ⟨ρ, O, E, p⟩ =>
  tB.mono (fun vs H1 ⟨rs, ρ1, O1, E1, F1, V1, p1⟩ => by
    split at p1
    · rename_i j q
      have r := V1.rd E1 q
      cases r with
      | cons r rr =>
        cases rr
        rw [r.int]
        by_cases hj : -1000 ≤ j ∧ j ≤ 16777216
        · rw [if_pos hj] at p1
          refine ⟨j, rfl, hj, p1 _ _ _ _ _ (ip_plain (a := 0) E1 F1 .free trivial (fun b e => e.elim) src_rng ?_)⟩
          unfold rangeD
          rw [List.length_map, List.length_range]
          have : sizeLine = 16777216 := sizeLine_eq
          omega
        · rw [if_neg hj] at p1; exact p1.elim
    · exact p1.elim) (tB_bndI E p)⟩
/-- zip(a, b) -/
def zipD : List D → List D → List D
  | x :: xs, y :: ys => .tup [x, y] :: zipD xs ys
  | _, _ => []
theorem zipD_get : ∀ (xs ys : List D) (i : Nat) (d : D), (zipD xs ys)[i]? = some d → ∃ x y, xs[i]? = some x ∧ ys[i]? = some y ∧ d = .tup [x, y]
  | [], _, _, _, h => by simp [zipD] at h
  | _ :: _, [], _, _, h => by simp [zipD] at h
  | x :: xs, y :: ys, 0, d, h => by
    simp [zipD] at h
    exact ⟨x, y, rfl, rfl, h.symm⟩
  | x :: xs, y :: ys, i + 1, d, h => by
    obtain ⟨a, b, h1, h2, h3⟩ := zipD_get xs ys i d (by simpa [zipD] using h)
    exact ⟨a, b, by simpa using h1, by simpa using h2, h3⟩
theorem zipD_len : ∀ (xs ys : List D), (zipD xs ys).length = min xs.length ys.length
  | [], _ => by simp [zipD]
  | _ :: _, [] => by simp [zipD]
  | x :: xs, y :: ys => by
    rw [zipD, List.length_cons, zipD_len xs ys, List.length_cons, List.length_cons]
    omega
theorem rp_pair {K : PySem.W.Frag} {T : Addr} {x y : V} {dx dy : D} (hT : H T = none) (rx : Rp K H O x dx) (ry : Rp K H O y dy) : Rp K (upd H T (.tup [x, y])) O (.ref T) (.tup [dx, dy]) :=
  .tup upd_same (.cons (rx.ke (ke_upd hT)) (.cons (ry.ke (ke_upd hT)) .nil))
theorem sqL_stay {K : PySem.W.Frag} {H H' : Hp} {a : Addr} {xs : List V} (h : SqL K H a xs) (st : ¬ KL K a xs → ∀ o, H a = some o → NT o → H' a = some o) : SqL K H' a xs := by
  rcases h with h | h
  · by_cases k : KL K a xs
    · exact .inr k
    · exact .inl (Rd.stay nt_lst (st k) h)
  · exact .inr h
theorem src_zipL {a b : Addr} {xs ys : List V} {ds es : List D} : Src X.K (Itz X.K a b) (zipD ds es) (fun c => (c = a ∧ ¬ KL X.K a xs) ∨ (c = b ∧ ¬ KL X.K b ys)) (fun H O => SqL X.K H a xs ∧ RpAll X.K H O xs ds ∧ SqL X.K H b ys ∧ RpAll X.K H O ys es) where
  keep := fun H O H' O' ⟨s, r, s2, r2⟩ k st => ⟨sqL_stay s fun n o h t => st a (.inl ⟨rfl, n⟩) o h t, r.ke k, sqL_stay s2 fun n o h t => st b (.inr ⟨rfl, n⟩) o h t, r2.ke k⟩
  go := fun i H O d ⟨s, r, s2, r2⟩ e => by
    obtain ⟨dx, dy, e1, e2, rfl⟩ := zipD_get _ _ _ _ e
    obtain ⟨x, hx, rx⟩ := r.get e1
    obtain ⟨y, hy, ry⟩ := r2.get e2
    refine ⟨⟨xs, ys, x, y, s, s2, hx, hy⟩, fun v H' ⟨T, x', y', ev, hT, eH, z1, z2⟩ => ?_⟩
    have z1 := z1 xs s
    have z2 := z2 ys s2
    rw [hx] at z1; cases z1
    rw [hy] at z2; cases z2
    subst ev eH
    exact ⟨upd_kp hT, rp_pair hT rx ry⟩
  stop := fun H O ⟨s, r, s2, r2⟩ => ⟨xs, ys, s, s2, by rw [zipD_len, r.length, r2.length]; omega⟩
theorem src_zipT {a b : Addr} {xs ys : List V} {ds es : List D} : Src X.K (ItzT X.K a b) (zipD ds es) (fun _ => False) (fun H O => H a = some (.tup xs) ∧ RpAll X.K H O xs ds ∧ H b = some (.tup ys) ∧ RpAll X.K H O ys es) where
  keep := fun H O H' O' ⟨s, r, s2, r2⟩ k st => ⟨k.kp _ _ s nt_tup (.inr ⟨_, rfl⟩), r.ke k, k.kp _ _ s2 nt_tup (.inr ⟨_, rfl⟩), r2.ke k⟩
  go := fun i H O d ⟨s, r, s2, r2⟩ e => by
    obtain ⟨dx, dy, e1, e2, rfl⟩ := zipD_get _ _ _ _ e
    obtain ⟨x, hx, rx⟩ := r.get e1
    obtain ⟨y, hy, ry⟩ := r2.get e2
    refine ⟨⟨xs, ys, x, y, SqT.of s, SqT.of s2, hx, hy⟩, fun v H' ⟨T, x', y', ev, hT, eH, z1, z2⟩ => ?_⟩
    have z1 := z1 xs (SqT.of s)
    have z2 := z2 ys (SqT.of s2)
    rw [hx] at z1; cases z1
    rw [hy] at z2; cases z2
    subst ev eH
    exact ⟨upd_kp hT, rp_pair hT rx ry⟩
  stop := fun H O ⟨s, r, s2, r2⟩ => ⟨xs, ys, SqT.of s, SqT.of s2, by rw [zipD_len, r.length, r2.length]; omega⟩
theorem Rp.lstX {K : PySem.W.Frag} {H : Hp} {O : Addr → Prop} {v : V} {ds : List D} (h : Rp K H O v (.lst ds)) : ∃ a xs, v = .ref a ∧ RpAll K H O xs ds ∧ (KL K a xs ∨ (Rd H a (.lst xs) ∧ ¬ O a)) := by
  cases h with
  | lst h1 n h2 => exact ⟨_, _, rfl, h2, .inr ⟨h1, n⟩⟩
  | lstK h1 h2 => exact ⟨_, _, rfl, h2, .inl h1⟩
/-- two values walked together: both shared or passing (no slot is locked) -/
def xZip (f : Ev (List Val)) : Ev Itm := fun ρ => bnd (f ρ) fun rs ρ1 => match rs with
  | [.sh (.lst ds), .sh (.lst es)] => some (.ok ⟨zipD ds es, none, false⟩ ρ1)
  | [.sh (.tup ds), .sh (.tup es)] => some (.ok ⟨zipD ds es, none, false⟩ ρ1)
  | _ => none
theorem pa_len {es : List Expr} {t : TA} (h : PA X es t) : PA X es fun σ H Q => t σ H fun vs H1 => (∀ a xs, (SqL X.K H1 a xs ∨ SqT X.K H1 a xs) → xs.length ≤ sizeLine) → Q vs H1 := ⟨fun pos pins s σ H Q I q =>
  thn (h.run pos pins s σ H _ I q) fun us s1 ⟨vs, H1, I1, r, z⟩ => ⟨vs, H1, I1, r, z fun a xs w => by
    rcases w with w | w
    · obtain ⟨_, _, _, hz⟩ := I1.list w
      exact hz
    · obtain ⟨_, _, _, hz⟩ := I1.tuple w
      exact hz⟩⟩
theorem vi_zip {e e2 : Expr} {g : Ev (List Val)} {p pos tpos : Pos} {elts : List Expr} {kk : Nat} (hg : Gl X "zip") (hm : X.mg "zip" = none) (ha : VB X W [e, e2] g)
    (hs : starEach [e, e2] X.env = (false, eval e X.env) :: starEach [e2] X.env := by rfl) (hpl : (backTo pos (starEach [e2] X.env)).any (·.1) = false := by rfl) :
    VI X W (.Tuple elts kk tpos) (.Call (.Name "zip" p) [e, e2] [] pos) (xZip g) := ⟨PI.imp (pi_zipA hg hm (pa_len ha.pa) hs hpl) fun σ H Rr ⟨ρ, O, E, p⟩ =>
  tB.mono (fun vs H1 ⟨rs, ρ1, O1, E1, F1, V1, p1⟩ hz => by
    split at p1
    · rename_i ds es
      cases V1 with
      | cons r rr =>
        cases rr with
        | cons r2 rr =>
          cases rr
          obtain ⟨a, xs, e1, ra, k1⟩ := Rp.lstX (show Rp X.K H1 O1 _ (.lst ds) from r)
          obtain ⟨b, ys, e2, rb, k2⟩ := Rp.lstX (show Rp X.K H1 O1 _ (.lst es) from r2)
          have sq : ∀ {a : Addr} {xs : List V}, (KL X.K a xs ∨ (Rd H1 a (.lst xs) ∧ ¬ O1 a)) → SqL X.K H1 a xs := fun k => k.elim .inr fun k => .inl k.1
          have nf : ∀ {a : Addr} {xs : List V}, (KL X.K a xs ∨ (Rd H1 a (.lst xs) ∧ ¬ O1 a)) → ¬ KL X.K a xs → ¬ Ow ρ1 σ a ∧ ∃ o, H1 a = some o := fun {a xs} k n => by
            rcases k with k | ⟨h, n1⟩
            · exact absurd k n
            · exact ⟨fun z => n1 (E1.owO z), Rd.ex h⟩
          have h1 := sq k1
          have h2 := sq k2
          subst e1 e2
          refine ⟨a, b, xs, ys, rfl, .inl ⟨h1, h2, p1 _ _ _ _ _ (ip_plain (a := 0) E1 F1 .free ⟨h1, ra, h2, rb⟩ (fun c hc => ?_) src_zipL ?_)⟩⟩
          · rcases hc with ⟨hc, n⟩ | ⟨hc, n⟩
            · rw [hc]; exact nf k1 n
            · rw [hc]; exact nf k2 n
          · rw [zipD_len, ← ra.length]
            exact Nat.le_trans (Nat.min_le_left _ _) (hz a xs (.inl h1))
    · rename_i ds es
      cases V1 with
      | cons r rr =>
        cases rr with
        | cons r2 rr =>
          cases rr
          have r : Rp X.K H1 O1 _ (.tup ds) := r
          have r2 : Rp X.K H1 O1 _ (.tup es) := r2
          cases r with
          | @tup a xs _ h1 ra =>
            cases r2 with
            | @tup b ys _ h2 rb =>
              refine ⟨a, b, xs, ys, rfl, .inr ⟨SqT.of h1, SqT.of h2, p1 _ _ _ _ _ (ip_plain (a := 0) E1 F1 .free ⟨h1, ra, h2, rb⟩ (fun c hc => hc.elim) src_zipT ?_)⟩⟩
              rw [zipD_len, ← ra.length]
              exact Nat.le_trans (Nat.min_le_left _ _) (hz a xs (.inr (SqT.of h1)))
    · exact p1.elim) (tB_bndI E p)⟩
end
end Lf

set_option Elab.async false
set_option linter.all false
set_option maxRecDepth 100000
/-! Lf, part S: sorted of tuples of ints (any number, any lengths, empty ones too). -/
namespace Lf
open PySem PyProof.Rows Srt SrtO

theorem lexLt_irr : ∀ ns : List Int, HT.lexLt ns ns = false
  | [] => rfl
  | x :: xs => by rw [HT.lexLt_cons, if_pos rfl, lexLt_irr xs]
theorem lexLt_asym : ∀ ns ms : List Int, HT.lexLt ns ms = true → HT.lexLt ms ns = false
  | [], [], h => rfl
  | [], _ :: _, _ => rfl
  | _ :: _, [], h => by rw [HT.lexLt_cons_nil] at h; cases h
  | x :: xs, y :: ys, h => by
    rw [HT.lexLt_cons] at h ⊢
    by_cases e : x = y
    · rw [if_pos e] at h
      rw [if_pos e.symm]
      exact lexLt_asym xs ys h
    · rw [if_neg e] at h
      rw [if_neg fun z => e z.symm]
      have := of_decide_eq_true h
      exact decide_eq_false (by omega)
theorem lexLe_tr : ∀ x y z : List Int, HT.lexLt y x = false → HT.lexLt z y = false → HT.lexLt z x = false
  | [], [], [], _, _ => rfl
  | [], [], _ :: _, _, _ => rfl
  | [], _ :: _, [], _, h => by rw [HT.lexLt_nil_cons] at h; cases h
  | [], _ :: _, _ :: _, _, _ => rfl
  | _ :: _, [], _, h, _ => by rw [HT.lexLt_nil_cons] at h; cases h
  | _ :: _, _ :: _, [], _, h => by rw [HT.lexLt_nil_cons] at h; cases h
  | x :: xs, y :: ys, z :: zs, h1, h2 => by
    rw [HT.lexLt_cons] at h1 h2 ⊢
    by_cases e1 : y = x
    · rw [if_pos e1] at h1
      by_cases e2 : z = y
      · rw [if_pos e2] at h2
        rw [if_pos (e2.trans e1)]
        exact lexLe_tr xs ys zs h1 h2
      · rw [if_neg e2] at h2
        have := of_decide_eq_false h2
        rw [if_neg (by omega)]
        exact decide_eq_false (by omega)
    · rw [if_neg e1] at h1
      have k1 := of_decide_eq_false h1
      by_cases e2 : z = y
      · rw [if_neg (by omega)]
        exact decide_eq_false (by omega)
      · rw [if_neg e2] at h2
        have := of_decide_eq_false h2
        rw [if_neg (by omega)]
        exact decide_eq_false (by omega)
theorem lexLe_anti : ∀ x y : List Int, HT.lexLt y x = false → HT.lexLt x y = false → x = y
  | [], [], _, _ => rfl
  | [], _ :: _, _, h => by rw [HT.lexLt_nil_cons] at h; cases h
  | _ :: _, [], h, _ => by rw [HT.lexLt_nil_cons] at h; cases h
  | x :: xs, y :: ys, h1, h2 => by
    rw [HT.lexLt_cons] at h1 h2
    by_cases e : x = y
    · rw [if_pos e.symm] at h1
      rw [if_pos e] at h2
      rw [e, lexLe_anti xs ys h1 h2]
    · rw [if_neg fun z => e z.symm] at h1
      rw [if_neg e] at h2
      have := of_decide_eq_false h1
      have := of_decide_eq_false h2
      omega

section
variable {prog : Program} {w : World} {A : Around} {E : Value → Shared → Prop} {s : Shared}
abbrev ltTu (h : Heap) (v u : Value) : Bool := HT.lexLt (TS.intsOf h v) (TS.intsOf h u)
theorem swo_tu (h : Heap) : Swo (ltTu h) := ⟨fun _ _ => lexLt_asym _ _, fun _ _ _ => lexLe_tr _ _ _⟩
abbrev TupsA (h : Heap) (vs : List Value) : Prop := ∀ v ∈ vs, ∃ ns, TS.TupInts h v ns
theorem tu_katLex {b fin : Bool} {Q : Bool → Shared → Prop} : ∀ {vs ws : List Value} {ns ms : List Int} (i : Nat), IntsAre vs ns → IntsAre ws ms → fin = decide (ns.length < ms.length) → Q (HT.lexLt ns ms) s → PySem.W.KatLex prog w A b fin Q (vs.zip ws) i s
  | [], [], _, _, i, .nil, .nil, hf, q => by
    rw [List.zip_nil_left]
    exact PySem.W.kat_nil (by rw [hf]; exact q)
  | [], _ :: _, _, _, i, .nil, .cons y u t, hf, q => by
    rw [List.zip_nil_left]
    exact PySem.W.kat_nil (by rw [hf]; simpa [HT.lexLt] using q)
  | _ :: _, [], _, _, i, .cons x u t, .nil, hf, q => by
    rw [List.zip_nil_right]
    exact PySem.W.kat_nil (by rw [hf]; simpa [HT.lexLt] using q)
  | _ :: _, _ :: _, _, _, i, .cons x u t, .cons y u' t', hf, q => by
    rw [List.zip_cons_cons]
    refine PySem.W.kat_cons (SeqAt.EqAt.int_int x u y u' prog w _ _ ?_)
    rw [HT.lexLt_cons] at q
    refine PySem.W.kat_go (fun e => ?_) (fun e => ?_)
    · have e : x = y := by simpa using e
      rw [if_pos e] at q
      exact PySem.W.kat_yes (tu_katLex (i + 1) t t' (by rw [hf]; simp) q)
    · have e : ¬ x = y := by simpa using e
      rw [if_neg e] at q
      exact PySem.W.kat_no (TS.oneLt_ints _ q)
theorem tu_one {f : Bool} {u v : Value} {ns ms : List Int} {Q : Bool → Shared → Prop} (hu : A.units < cLine) (h1 : TS.TupInts s.heap u ns) (h2 : TS.TupInts s.heap v ms) (q : Q (HT.lexLt ns ms) s) : wpAny (model prog w) A (oneLt' f u v) Q E s := by
  obtain ⟨a, xs, rfl, t1, i1⟩ := h1
  obtain ⟨b, ys, rfl, t2, i2⟩ := h2
  cases f with
  | false =>
    rw [oneLt'_eq]
    simp only [Bool.false_eq_true, if_false]
    exact wpAny_bind (HT.lt_tupInts (E := E) t1 t2 i1 i2 hu (wpAny_truthy_bool q))
  | true =>
    obtain ⟨⟨cls, dd, data, sl⟩, ho, hc, n, hd⟩ := id t1
    obtain ⟨⟨cls2, dd2, data2, sl2⟩, ho2, hc2, n2, hd2⟩ := id t2
    simp only at hc hd hc2 hd2
    subst hc hd hc2 hd2
    rw [oneLt'_eq]
    simp only [if_true]
    refine wpAny_bind (wpAny_cRoomFor hu ?_)
    refine wpAny_bind (wpAny_callSpecialIfBound?_slot (T := "tuple") ⟨_, ho, rfl⟩ PySem.F.slot_tuple_lt (call_meets PySem.F.slot_tuple_lt ⟨_, ho, rfl⟩ PySem.F.entry_tuple_lt (PySem.F.args_tuple_lt_2 _ _) (HT.tuple_lt_ints a b xs ys n n2 dd dd2 sl sl2 ns ms i1 i2) ⟨ho, ho2, ?_⟩))
    exact wpAny_truthy_bool q
/-- the first item of a tuple -/
def fstO (h : Heap) (v : Value) : Option Value := match v with
  | .ref a => match h.get? a with
    | some o => match o.data with
      | .seq xs _ => xs[0]?
      | _ => none
    | none => none
  | _ => none
theorem tu_first {M : Model} {v : Value} {ns : List Int} (x : TS.TupInts s.heap v ns) {Q : Option Value → Shared → Prop} (q : Q (fstO s.heap v) s) : wpAny M A (firstOfTuple' v) Q E s := by
  obtain ⟨a, xs, rfl, ⟨o, ho, hc, n, hd⟩, i⟩ := x
  rw [PySem.W.kas_first_eq]
  refine wpAny_bind (PySem.W.Looks.here (show PySem.W.Looks M s.heap (typeOf (.ref a)) o.cls from (PySem.W.Looks.ld ho).andThen .now) ?_)
  rw [hc, if_neg (by first | decide | simp)]
  refine wpAny_bind (listItems_at ho hd (wpAny_pure ?_))
  have e : fstO s.heap (.ref a) = xs[0]? := by
    simp only [fstO, ho, hd]
  rw [← e]
  exact q
theorem tu_firsts {M : Model} : ∀ (vs : List Value) {Q : List (Option Value) → Shared → Prop}, TupsA s.heap vs → Q (vs.map (fstO s.heap)) s → wpAny M A (vs.mapM firstOfTuple') Q E s
  | [], _, _, h => by rw [List.mapM_nil]; exact wpAny_pure h
  | v :: vs, Q, t, h => by
    rw [List.mapM_cons]
    obtain ⟨ns, x⟩ := t v List.mem_cons_self
    exact wpAny_bind (tu_first x (wpAny_bind (tu_firsts vs (Q := fun bs s' => wpAny M A (pure (fstO s.heap v :: bs)) Q E s') (fun u hu => t u (List.mem_cons_of_mem _ hu)) (wpAny_pure h))))
theorem tu_fst_int {h : Heap} {v f : Value} {ns : List Int} (x : TS.TupInts h v ns) (e : fstO h v = some f) : ∃ i t, f = Value.int i t := by
  obtain ⟨a, xs, rfl, ⟨o, ho, hc, n, hd⟩, i⟩ := x
  have e' : fstO h (.ref a) = xs[0]? := by
    simp only [fstO, ho, hd]
  rw [e'] at e
  have : f ∈ xs.toList := by
    rw [← Array.getElem?_toList] at e
    exact List.mem_of_getElem? e
  exact SrtO.ints_mem i f this
theorem tups_sortable {a : Addr} {vs : List Value} (hu : A.units < cLine) (h2 : 2 ≤ vs.length) (hp : TupsA s.heap vs) (ha : ∀ o, s.heap.get? a = some o → o.cls ≠ .type "tuple") : SortableO prog w A s a vs (ltTu s.heap) := by
  intro h' keep
  have kk : ∀ b o, s.heap.get? b = some o → o.cls = .type "tuple" → h'.get? b = some o := fun b o e c => keep b o (fun z => by subst z; exact ha o e c) e
  have hp' : TupsA h' vs := fun v hm => by
    obtain ⟨ns, x⟩ := hp v hm
    exact ⟨ns, x.keeps kk⟩
  have ei : ∀ v ∈ vs, ∃ ns, TS.TupInts h' v ns ∧ TS.intsOf s.heap v = ns := fun v hm => by
    obtain ⟨ns, x⟩ := hp v hm
    exact ⟨ns, x.keeps kk, x.ints⟩
  have cOne : ∀ f, f = true ∨ f = false → ∀ p q : Keyed, p.1 ∈ vs → q.1 ∈ vs → wpAny (model prog w) A (oneLt' f p.1 q.1) (fun r s' => s' = { s with heap := h' } ∧ r = lt2 (ltTu s.heap) p q) (fun _ _ => False) { s with heap := h' } := fun f _ p q hm hm' => by
    obtain ⟨ns, x1, e1⟩ := ei _ hm
    obtain ⟨ms, x2, e2⟩ := ei _ hm'
    refine tu_one (s := { s with heap := h' }) hu x1 x2 ⟨rfl, ?_⟩
    show HT.lexLt ns ms = HT.lexLt (TS.intsOf s.heap p.1) (TS.intsOf s.heap q.1)
    rw [e1, e2]
  by_cases hall : ((vs.map (fstO h')).toArray.all fun x => x.isSome) = true
  · refine ⟨tuples' true, fun Q E hq => ?_, fun p q hm hm' => ?_⟩
    · rw [PyProof.Rows.kat_kind_eq, List.mapM_toArray, map_eq_pure_bind]
      refine wpAny_bind (wpAny_bind (tu_firsts (s := { s with heap := h' }) vs hp' (wpAny_pure ?_)))
      rw [if_pos hall]
      refine wpAny_bind (wpAny_rule ?_)
      -- the firsts are ints
      have fi : ∀ f ∈ (vs.map (fstO h')).filterMap id, ∃ i t, f = Value.int i t := fun f hf => by
        obtain ⟨x, hx, e⟩ := List.mem_filterMap.mp hf
        obtain ⟨v, hv, e2⟩ := List.mem_map.mp hx
        obtain ⟨ns, y⟩ := hp' v hv
        exact tu_fst_int y (e2.trans e)
      have hfm : ((vs.map (fstO h')).toArray.filterMap id) = ((vs.map (fstO h')).filterMap id).toArray := by simp
      have hne : ((vs.map (fstO h')).filterMap id) ≠ [] := by
        match vs, h2, hall with
        | v :: vs, _, hall =>
          simp only [List.map_cons, List.all_toArray, List.all_cons, Bool.and_eq_true] at hall
          obtain ⟨f, hf⟩ := Option.isSome_iff_exists.mp hall.1
          rw [List.map_cons, List.filterMap_cons, hf]
          simp
      rw [hfm, oneTypeOnly'_eq, List.mapM_toArray, map_eq_pure_bind]
      refine wpAny_bind (wpAny_bind (wpAny_bind (PySem.W.kas_mapM (r := Value.type "int") _ (fun v hv Q' hq => ?_) (wpAny_pure ?_))))
      · obtain ⟨i, t, rfl⟩ := fi v hv
        exact PySem.W.Looks.here PySem.W.Looks.now hq
      · have hall2 : ((List.map (fun _ => Value.type "int") ((vs.map (fstO h')).filterMap id)).toArray.all fun x => x == Value.type "int") = true := by
          simp only [List.all_toArray, List.all_map, List.all_eq_true]
          intro _ _
          exact (by first | rfl | decide +kernel | decide : (Value.type "int" == Value.type "int") = true)
        obtain ⟨f, fr, ef⟩ := List.exists_cons_of_ne_nil hne
        have h0 : (List.map (fun _ => Value.type "int") ((vs.map (fstO h')).filterMap id)).toArray[0]? = some (Value.type "int") := by
          rw [ef]; simp
        rw [h0]
        simp only [hall2, if_true]
        refine wpAny_pure (wpAny_pure ?_)
        have e : (Value.type "int" != Value.type "tuple") = true := by first | decide +kernel | rfl | decide
        show Q (tuples' (Option.any (fun x => x != Value.type "tuple") (some (Value.type "int")))) _
        rw [Option.any_some, e]
        exact hq
    · obtain ⟨ns, ⟨a1, xs, e1, ⟨o1, ho1, hc1, n1, hd1⟩, i1⟩, q1⟩ := ei _ hm
      obtain ⟨ms, ⟨a2, ys, e2, ⟨o2, ho2, hc2, n2, hd2⟩, i2⟩, q2⟩ := ei _ hm'
      show wpAny (model prog w) A (keyLt' (tuples' true) p.1 q.1) (fun r s' => s' = { s with heap := h' } ∧ r = HT.lexLt (TS.intsOf s.heap p.1) (TS.intsOf s.heap q.1)) (fun _ _ => False) _
      rw [q1, q2, e1, e2]
      have l1 : ns.length = xs.size := by rw [← i1.length, Array.length_toList]
      have l2 : ms.length = ys.size := by rw [← i2.length, Array.length_toList]
      exact PySem.W.kat_lt ho1 hd1 ho2 hd2 (tu_katLex 0 i1 i2 (by rw [l1, l2]) ⟨rfl, rfl⟩)
  · by_cases hf : ((vs.map (fstO h')).toArray[0]?.bind id).isSome = true
    · refine ⟨general', fun Q E hq => ?_, fun p q hm hm' => cOne false (.inr rfl) p q hm hm'⟩
      rw [PyProof.Rows.kat_kind_eq, List.mapM_toArray, map_eq_pure_bind]
      refine wpAny_bind (wpAny_bind (tu_firsts (s := { s with heap := h' }) vs hp' (wpAny_pure ?_)))
      rw [if_neg hall, if_pos hf]
      exact wpAny_pure hq
    · refine ⟨oneType', fun Q E hq => ?_, fun p q hm hm' => cOne true (.inl rfl) p q hm hm'⟩
      rw [PyProof.Rows.kat_kind_eq, List.mapM_toArray, map_eq_pure_bind]
      refine wpAny_bind (wpAny_bind (tu_firsts (s := { s with heap := h' }) vs hp' (wpAny_pure ?_)))
      rw [if_neg hall, if_neg hf]
      rw [oneTypeOnly'_eq, List.mapM_toArray, map_eq_pure_bind]
      refine wpAny_bind (wpAny_bind (wpAny_bind (PySem.W.kas_mapM (s := { s with heap := h' }) (r := Value.type "tuple") _ (fun v hv Q' hq => ?_) (wpAny_pure ?_))))
      · obtain ⟨ns, a1, xs, rfl, ⟨o1, ho1, hc1, n1, hd1⟩, i1⟩ := hp' v hv
        rw [← hc1] at hq
        exact PySem.W.Looks.here (s := { s with heap := h' }) (show PySem.W.Looks _ h' (typeOf (.ref a1)) o1.cls from (PySem.W.Looks.ld ho1).andThen .now) hq
      · have hall2 : ((List.map (fun _ => Value.type "tuple") vs).toArray.all fun x => x == Value.type "tuple") = true := by
          simp only [List.all_toArray, List.all_map, List.all_eq_true]
          intro _ _
          exact (by first | rfl | decide +kernel | decide : (Value.type "tuple" == Value.type "tuple") = true)
        have h0 : (List.map (fun _ => Value.type "tuple") vs).toArray[0]? = some (Value.type "tuple") := by
          match vs, h2 with
          | v :: vs, _ => simp
        rw [h0]
        simp only [hall2, if_true]
        exact wpAny_pure (wpAny_pure hq)
end
end Lf

set_option Elab.async false
set_option linter.all false
set_option maxRecDepth 100000
/-! Lf, part T: sorted(x) at the data level: x a list, a tuple, a dict. -/
namespace Lf
open PySem PySem.Spec L2 PyProof.Rows

/-! ### the data -/
def dTI (ns : List Int) : D := .tup (ns.map .int)
def asI : D → Option Int
  | .int i => some i
  | _ => none
def asIs : List D → Option (List Int)
  | [] => some []
  | d :: ds => (asI d).bind fun i => (asIs ds).map fun is => i :: is
def asT : D → Option (List Int)
  | .tup ds => asIs ds
  | _ => none
def asTs : List D → Option (List (List Int))
  | [] => some []
  | d :: ds => (asT d).bind fun i => (asTs ds).map fun is => i :: is
theorem asI_eq : ∀ {d : D} {i : Int}, asI d = some i → d = .int i
  | .int j, i, h => by cases h; rfl
  | .non, _, h => nomatch h
  | .bl _, _, h => nomatch h
  | .str _, _, h => nomatch h
  | .tup _, _, h => nomatch h
  | .lst _, _, h => nomatch h
  | .dk _, _, h => nomatch h
  | .dt _, _, h => nomatch h
theorem asIs_eq : ∀ {ds : List D} {is : List Int}, asIs ds = some is → ds = is.map .int
  | [], _, h => by cases h; rfl
  | d :: ds, is, h => by
    unfold asIs at h
    obtain ⟨i, h1, h⟩ := Option.bind_eq_some_iff.mp h
    obtain ⟨js, h2, rfl⟩ := Option.map_eq_some_iff.mp h
    rw [asI_eq h1, asIs_eq h2]; rfl
theorem asT_eq : ∀ {d : D} {is : List Int}, asT d = some is → d = dTI is
  | .tup _, _, h => by rw [asIs_eq (show asIs _ = _ from h)]; rfl
  | .int j, i, h => nomatch h
  | .non, _, h => nomatch h
  | .bl _, _, h => nomatch h
  | .str _, _, h => nomatch h
  | .lst _, _, h => nomatch h
  | .dk _, _, h => nomatch h
  | .dt _, _, h => nomatch h
theorem asTs_eq : ∀ {ds : List D} {is : List (List Int)}, asTs ds = some is → ds = is.map dTI
  | [], _, h => by cases h; rfl
  | d :: ds, is, h => by
    unfold asTs at h
    obtain ⟨i, h1, h⟩ := Option.bind_eq_some_iff.mp h
    obtain ⟨js, h2, rfl⟩ := Option.map_eq_some_iff.mp h
    rw [asT_eq h1, asTs_eq h2]; rfl
theorem asIs_int : ∀ is : List Int, asIs (is.map .int) = some is
  | [] => rfl
  | i :: is => by simp [asIs, asI, asIs_int is]
theorem asT_tI (is : List Int) : asT (dTI is) = some is := asIs_int is
theorem asTs_tI : ∀ is : List (List Int), asTs (is.map dTI) = some is
  | [] => rfl
  | i :: is => by simp [asTs, asT_tI, asTs_tI is]
def sortI (ns : List Int) : List Int := ns.mergeSort (fun a b => decide (a ≤ b))
def leT (a b : List Int) : Bool := !HT.lexLt b a
def sortT (ks : List (List Int)) : List (List Int) := ks.mergeSort leT
theorem sortI_eq {ns ms : List Int} (p : ms.Perm ns) (s : ms.Pairwise (· ≤ ·)) : ms = sortI ns := by
  refine List.Perm.eq_of_pairwise (le := (· ≤ ·)) (fun a b _ _ h1 h2 => Int.le_antisymm h1 h2) s ?_ (p.trans (List.mergeSort_perm ns _).symm)
  have := List.pairwise_mergeSort (le := fun a b : Int => decide (a ≤ b)) (fun a b c h1 h2 => by simp at *; omega) (fun a b => by simp; omega) ns
  exact this.imp fun h => by simpa using h
theorem sortT_eq {ns ms : List (List Int)} (p : ms.Perm ns) (s : ms.Pairwise (fun a b => HT.lexLt b a = false)) : ms = sortT ns := by
  refine List.Perm.eq_of_pairwise (le := fun a b => HT.lexLt b a = false) (fun a b _ _ h1 h2 => lexLe_anti a b h1 h2) s ?_ (p.trans (List.mergeSort_perm ns _).symm)
  have := List.pairwise_mergeSort (le := leT) (fun a b c h1 h2 => by
    unfold leT at *
    have h1 : HT.lexLt b a = false := by simpa using h1
    have h2 : HT.lexLt c b = false := by simpa using h2
    simpa using lexLe_tr a b c h1 h2) (fun a b => by
    unfold leT
    cases h : HT.lexLt b a with
    | false => rfl
    | true => rw [lexLt_asym b a h]; rfl) ns
  exact this.imp fun h => by unfold leT at h; simpa using h
/-- sorted items -/
def sortL (ds : List D) : Option (List D) := match asIs ds with
  | some ns => some ((sortI ns).map .int)
  | none => (asTs ds).map fun ks => (sortT ks).map dTI

/-! ### what is gathered -/
section
variable {prog : Program} {w : World} {A : Around} {E : Value → Shared → Prop} {s : Shared}
/-- collect gives such values -/
def Coll (prog : Program) (w : World) (A : Around) (s : Shared) (arg : Value) (Pv : List Value → Prop) : Prop :=
  ∀ (R : List Value → Shared → Prop) (E : Value → Shared → Prop), (∀ s1 vs, (∀ b o, s.heap.get? b = some o → s1.heap.get? b = some o) → s1.gens = s.gens → s1.os = s.os → Pv vs → R vs s1) → wpAny (model prog w) A (collect arg) R E s
theorem coll_list {l : Addr} {vs : List Value} (hl : s.heap.IsList l vs.toArray) (hz : vs.length ≤ sizeLine) : Coll prog w A s (.ref l) (· = vs) := fun R E h =>
  collect_list hl (h _ vs (fun b o q => by
    have hlt : b < s.heap.objs.size := Heap.lt_size q
    rw [Heap.get?_update_ne _ _ _ _ (Nat.ne_of_lt hlt)]
    exact Heap.get?_push_of_some _ q) rfl rfl rfl) hz
theorem collect_tup {l : Addr} {vs : List Value} {Q : List Value → Shared → Prop} (hl : IsTup s.heap l vs.toArray)
    (h : Q vs { s with heap := (s.heap.push (seqObj "list" #[] 0)).update s.heap.objs.size (Obj.mapSeq (· ++ vs.toArray)) }) (hsz : vs.length ≤ sizeLine) :
    wpAny (model prog w) A (collect (.ref l)) Q E s := by
  obtain ⟨o, ho, hc, n, hd⟩ := id hl
  unfold collect
  refine wpAny_bind (wpAny_runValue (codeAny_builtin entry_proto_collect' ?_))
  show wpAny _ _ (do again (.builtin "list.__iadd__" ⟨[← newList [], .ref l], []⟩)) _ _ s
  refine wpAny_bind (wpAny_newList (wpAny_pure ⟨Code.quiet_builtin _ (by decide +kernel), codeAny_builtin entry_list_iadd' ?_⟩))
  show wpAny _ _ (Builtin.List.listExtendWith (.ref s.heap.objs.size) (.ref l) (.ref s.heap.objs.size)) _ _ { s with heap := s.heap.push (seqObj "list" #[] 0) }
  unfold Builtin.List.listExtendWith
  have ho' : (s.heap.push (seqObj "list" #[] 0)).get? l = some o := Heap.get?_push_of_some _ ho
  refine wpAny_bind (wpAny_typeOf (T := "tuple") ⟨o, ho', hc⟩ ?_)
  have ht : (Value.type "tuple" == Value.type "tuple") = true := by rfl
  rw [if_pos (by rw [ht]; simp)]
  refine wpAny_bind (listItems_at ho' hd ?_)
  refine wpAny_bind (listItems_at (xs := #[]) (n := 0) (Heap.get?_push_size _ rfl) rfl ?_)
  rw [if_neg (by simp)]
  refine wpAny_bind (listUpdate_at (xs := #[]) (n := 0) (Heap.get?_push_size _ rfl) rfl ?_ (Nat.zero_le _) (by show (#[] ++ vs.toArray).size ≤ sizeLine + 1; simp only [Array.size_append, List.size_toArray, List.length_nil]; omega))
  refine wpAny_pure ?_
  show wpAny (model prog w) A (do
      let o ← load s.heap.objs.size
      match o.data with
      | .seq xs _ => pure xs.toList
      | _ => unsupported "internal:collect") Q E { s with heap := (s.heap.push (seqObj "list" #[] 0)).update s.heap.objs.size (Obj.mapSeq (· ++ vs.toArray)) }
  refine wpAny_bind (wpAny_load (get?_update_seq (Heap.get?_push_size _ rfl) _) ?_)
  show wpAny _ _ (pure ((#[] : Array Value) ++ vs.toArray).toList) Q E _
  rw [show ((#[] : Array Value) ++ vs.toArray).toList = vs by simp]
  exact wpAny_pure h
theorem coll_tup {l : Addr} {vs : List Value} (hl : IsTup s.heap l vs.toArray) (hz : vs.length ≤ sizeLine) : Coll prog w A s (.ref l) (· = vs) := fun R E h =>
  collect_tup hl (h _ vs (fun b o q => by
    have hlt : b < s.heap.objs.size := Heap.lt_size q
    rw [Heap.get?_update_ne _ _ _ _ (Nat.ne_of_lt hlt)]
    exact Heap.get?_push_of_some _ q) rfl rfl rfl) hz
theorem sorted_coll {arg : Value} {Pv : List Value → Prop} {ltv : Value → Value → Bool} {Q : Value → Shared → Prop} (O : SrtO.Swo ltv) (hc : Coll prog w A.in1 s arg Pv) (hz : ∀ vs, Pv vs → vs.length ≤ sizeLine)
    (hS : ∀ vs, Pv vs → 2 ≤ vs.length → ∀ (s1 : Shared) (a : Addr), s1.heap.get? a = some (seqObj "list" vs.toArray 0) → (∀ b o, s.heap.get? b = some o → s1.heap.get? b = some o) → SrtO.SortableO prog w A.in1.in1 s1 a vs ltv)
    (h : ∀ (vs out : List Value) (hm : Heap) (s1 : Shared) (p : Addr) (c : Nat), Pv vs → SrtO.Srtd ltv out → out.Perm vs → (∀ b o, s.heap.get? b = some o → hm.get? b = some o) → (∀ b o, hm.get? b = some o → s1.heap.get? b = some o) → s1.gens = s.gens → s1.os = s.os → hm.objs.size ≤ p → s1.heap.get? p = some (seqObj "list" out.toArray c) → Q (.ref p) s1) :
    wpAny (model prog w) A (call (.builtin "sorted") [arg]) Q E s := by
  refine Calls.call_function_entry kind_sorted plain_sorted entry_sorted (args_sorted1 _) ?_
  unfold Builtin.«sorted»
  refine wpAny_bind (m := checkCount "sorted" 1 1 _) (wpAny_pure ?_)
  refine wpAny_bind (hc _ _ fun s1 vs k1 g1 o1 pv => ?_)
  refine wpAny_bind (wpAny_newList ?_ (hz vs pv))
  have hoL : (s1.heap.push (seqObj "list" vs.toArray 0)).get? s1.heap.objs.size = some (seqObj "list" vs.toArray 0) := Heap.get?_push_size _ rfl
  refine wpAny_bind (wpAny_holding (wpAny_call_entry (s := { s1 with heap := s1.heap.push (seqObj "list" vs.toArray 0) }) slot_list_sort ⟨_, hoL, rfl⟩ entry_list_sort (SrtO.list_sort_ord O hoL (hz vs pv) (fun h2 => hS vs pv h2 _ _ hoL fun b o e => Heap.get?_push_of_some _ (k1 b o e)) fun out hs hb => ⟨_, rfl, ?_⟩) (args_list_sort _)))
  obtain ⟨c, hcc⟩ := sortedHeap_at (vs := vs) (out := out.toArray) hoL
  refine wpAny_pure ⟨_, rfl, h vs out s1.heap _ s1.heap.objs.size c pv hs hb.perm k1 (fun b u q => ?_) g1 o1 (Nat.le_refl _) hcc⟩
  have hlt := Heap.lt_size q
  show (sortedHeap (s1.heap.push (seqObj "list" vs.toArray 0)) s1.heap.objs.size vs out.toArray).get? b = some u
  rw [sortedHeap_old (Nat.ne_of_lt hlt) (by rw [size_push']; exact Nat.lt_succ_of_lt hlt)]
  exact Heap.get?_push_of_some _ q
end
theorem paired_perm {α β : Type} {F : α → β → Prop} : ∀ {vs out : List α}, out.Perm vs → ∀ {ds : List β}, Paired F vs ds → ∃ es, Paired F out es ∧ es.Perm ds := by
  intro vs out p
  induction p with
  | nil => intro ds h; exact ⟨ds, h, .refl _⟩
  | cons x p ih =>
    intro ds h
    cases h with
    | cons h t =>
      obtain ⟨es, h1, h2⟩ := ih t
      exact ⟨_, .cons h h1, h2.cons _⟩
  | swap x y l =>
    intro ds h
    cases h with
    | cons h t =>
      cases t with
      | cons h' t => exact ⟨_, .cons h' (.cons h t), .swap _ _ _⟩
  | trans p q ih1 ih2 =>
    intro ds h
    obtain ⟨es, h1, h2⟩ := ih2 h
    obtain ⟨fs, h3, h4⟩ := ih1 h1
    exact ⟨fs, h3, h4.trans h2⟩
theorem paired_pw {α β : Type} {F : α → β → Prop} {P : α → α → Prop} {G : β → β → Prop} (hf : ∀ a b a' b', F a b → F a' b' → P a a' → G b b') : ∀ {l : List α} {m : List β}, Paired F l m → l.Pairwise P → m.Pairwise G
  | _, _, .nil, _ => .nil
  | a :: l, b :: m, .cons h t, p => by
    obtain ⟨p1, p2⟩ := List.pairwise_cons.mp p
    refine List.pairwise_cons.mpr ⟨fun b' hb' => ?_, paired_pw hf t p2⟩
    obtain ⟨j, hj, e⟩ := List.getElem_of_mem hb'
    have : ∀ {l : List α} {m : List β}, Paired F l m → ∀ b' ∈ m, ∃ a' ∈ l, F a' b' := by
      intro l m t
      induction t with
      | nil => intro b' h; cases h
      | cons h t ih =>
        intro b' hb
        rcases List.mem_cons.mp hb with e | hb
        · subst e; exact ⟨_, List.mem_cons_self, h⟩
        · obtain ⟨a', h1, h2⟩ := ih b' hb
          exact ⟨a', List.mem_cons_of_mem _ h1, h2⟩
    obtain ⟨a', ha', hF⟩ := this t b' hb'
    exact hf a b a' b' h hF (p1 a' ha')

/-! ### at the walk's level -/
section
variable {X : Cx}
/-- a value and what it holds -/
def VD (X : Cx) (H : Hp) (O : Addr → Prop) (u : Value) (d : D) : Prop := ∃ x, RelV x u ∧ Rp X.K H O x d
theorem vd_of {H : Hp} {O : Addr → Prop} : ∀ {xs : List V} {us : List Value} {ds : List D}, Vals xs us → RpAll X.K H O xs ds → Paired (VD X H O) us ds
  | [], _, _, .nil, .nil => .nil
  | x :: xs, _, _, .cons h t, .cons h' t' => .cons ⟨x, h, h'⟩ (vd_of t t')
theorem vd_back {H : Hp} {O : Addr → Prop} : ∀ {us : List Value} {ds : List D}, Paired (VD X H O) us ds → ∃ xs, Vals xs us ∧ RpAll X.K H O xs ds
  | _, _, .nil => ⟨[], .nil, .nil⟩
  | _, _, .cons ⟨x, h, h'⟩ t => by
    obtain ⟨xs, h1, h2⟩ := vd_back t
    exact ⟨x :: xs, .cons h h1, .cons h' h2⟩
theorem vd_tup {pins : List (Addr × Obj)} {σ : L2.St} {H : Hp} {O : Addr → Prop} {s : Shared} (I : Inv X pins σ H s) {u : Value} {ns : List Int} (h : VD X H O u (dTI ns)) : TS.TupInts s.heap u ns := by
  obtain ⟨x, h1, h2⟩ := h
  cases h2 with
  | @tup a xs _ ha hr =>
    cases h1
    rw [RpAll.ints.mp hr] at ha
    exact tupI_raw I (SqT.of ha)
theorem vd_int {H : Hp} {O : Addr → Prop} {u : Value} {i : Int} (h : VD X H O u (.int i)) : ∃ t, u = Value.int i t := by
  obtain ⟨x, h1, h2⟩ := h
  cases h2
  exact h1
theorem map_dTI_inj : ∀ {a b : List (List Int)}, a.map dTI = b.map dTI → a = b := fun {a b} h => by
  have := asTs_tI a
  rw [h, asTs_tI b] at this
  exact (Option.some.inj this).symm
theorem map_int_inj : ∀ {a b : List Int}, a.map D.int = b.map D.int → a = b := fun {a b} h => by
  have := asIs_int a
  rw [h, asIs_int b] at this
  exact (Option.some.inj this).symm
theorem perm_map_inv {α β : Type} {f : α → β} : ∀ {es : List β} {ks : List α}, es.Perm (ks.map f) → ∃ ms : List α, es = ms.map f ∧ ms.Perm ks := fun {es ks} p => by
  have q : Paired (fun b a => b = f a) (ks.map f) ks := by
    clear p
    induction ks with
    | nil => exact .nil
    | cons k ks ih => exact .cons rfl ih
  obtain ⟨ms, h1, h2⟩ := paired_perm p q
  refine ⟨ms, ?_, h2⟩
  clear h2 q p
  induction h1 with
  | nil => rfl
  | cons h t ih => rw [h, ih]; rfl
theorem vd_ints {H : Hp} {O : Addr → Prop} : ∀ {vs : List Value} {ns : List Int}, Paired (VD X H O) vs (ns.map .int) → IntsAre vs ns
  | [], [], _ => .nil
  | [], _ :: _, h => nomatch h
  | _ :: _, [], h => nomatch h
  | v :: vs, n :: ns, h => by
    cases h with
    | cons h t =>
      obtain ⟨tk, rfl⟩ := vd_int h
      exact .cons n tk (vd_ints t)
theorem vd_tups {pins : List (Addr × Obj)} {σ : L2.St} {H : Hp} {O : Addr → Prop} {s : Shared} (I : Inv X pins σ H s) : ∀ {vs : List Value} {ks : List (List Int)}, Paired (VD X H O) vs (ks.map dTI) → ∀ v ∈ vs, ∃ ns, TS.TupInts s.heap v ns
  | [], _, _, v, h => by cases h
  | _ :: _, [], h, _, _ => nomatch h
  | u :: vs, n :: ns, h, v, hv => by
    cases h with
    | cons h t =>
      rcases List.mem_cons.mp hv with z | z
      · subst z; exact ⟨n, vd_tup I h⟩
      · exact vd_tups I t v z
/-- sorted, what is gathered holding ds -/
theorem sorted_d {pins : List (Addr × Obj)} {σ : L2.St} {H : Hp} {O : Addr → Prop} {s : Shared} {arg : Value} {ds es : List D} {Q : VK} (hu : X.A.units + 64 < cLine) (I : Inv X pins σ H s)
    (hc : Coll X.prog X.w X.A.in1 s arg (fun vs => ∃ ds' : List D, Paired (VD X H O) vs ds' ∧ ds'.Perm ds)) (hz : ds.length ≤ sizeLine) (hs : sortL ds = some es) (q : ∀ v H' O', NP X.K H O (.ow (.lst es)) v H' O' → Q v H') :
    wpAny (model X.prog X.w) X.A (call (.builtin "sorted") [arg]) (EP X pins σ Q) X.xe s := by
  have fin : ∀ (ds' : List D) (out : List Value) (hm : Heap) (s1 : Shared) (p : Addr) (c : Nat), Paired (VD X H O) out ds' → ds' = es → (∀ b o, s.heap.get? b = some o → hm.get? b = some o) → (∀ b o, hm.get? b = some o → s1.heap.get? b = some o) → s1.gens = s.gens → s1.os = s.os → hm.objs.size ≤ p → s1.heap.get? p = some (seqObj "list" out.toArray c) → out.length ≤ sizeLine → EP X pins σ Q (.ref p) s1 := by
    intro ds' out hm s1 p c pr e k0 k g o hp hg hl
    subst e
    obtain ⟨xs, v, r⟩ := vd_back pr
    have I1 : Inv X pins σ H { s with heap := hm, toks := s.toks } := I.kept k0
    have hn : H p = none := I1.hok.fresh hp
    have hlx : xs.length ≤ sizeLine := by rw [v.length]; exact hl
    have J : Inv X pins σ (upd H p (.lst xs)) { s with heap := s1.heap, gens := s1.gens, drawn := s1.drawn, toks := s1.toks } :=
      Inv.call (s := { s with heap := hm, toks := s.toks }) (ch := []) I1 (Un.laid k hp hn) (I1.hok.laid k hp ⟨hlx, out, c, v, hg⟩) (by rw [g]; exact I.bare) (fun _ z => nomatch z)
    have e : s1 = { s with heap := s1.heap, gens := s1.gens, drawn := s1.drawn, toks := s1.toks } := by
      cases s1
      cases s
      cases o
      rfl
    rw [e]
    exact ⟨.ref p, _, J, rfl, q _ _ _ (NP.newL hn r)⟩
  have ua : X.A.in1.in1.units < cLine := by
    show X.A.units + 1 + 1 < cLine
    omega
  unfold sortL at hs
  cases hi : asIs ds with
  | some ns =>
    rw [hi] at hs
    cases hs
    have e := asIs_eq hi
    refine sorted_coll (ltv := SrtO.ltIv) SrtO.swo_int hc (fun vs ⟨ds', p, pm⟩ => by rw [Paired.length p, pm.length_eq]; exact hz) (fun vs ⟨ds', p, pm⟩ h2 s1 a ha k => ?_) fun vs out hm s1 p c ⟨ds', pv, pm⟩ h1 h2 k0 k g o hp hg => ?_
    · rw [e] at pm
      obtain ⟨ns', rfl, _⟩ := perm_map_inv pm
      exact SrtO.ints_sortable (vd_ints p) h2
    · obtain ⟨fs, h3, h4⟩ := paired_perm h2 pv
      have h4 := h4.trans pm
      rw [e] at h4
      obtain ⟨ms, rfl, h5⟩ := perm_map_inv h4
      refine fin _ out hm s1 p c h3 ?_ k0 k g o hp hg ?_
      · rw [sortI_eq h5 ?_]
        have := paired_pw (G := fun a b : D => ∀ i j, a = .int i → b = .int j → i ≤ j) (fun a b a' b' r r' h i j e1 e2 => by
          subst e1 e2
          obtain ⟨t, rfl⟩ := vd_int r
          obtain ⟨t', rfl⟩ := vd_int r'
          have h : decide (j < i) = false := h
          simpa using h) h3 h1
        rw [List.pairwise_map] at this
        exact this.imp fun h => h _ _ rfl rfl
      · rw [h2.length_eq, Paired.length pv, pm.length_eq]; exact hz
  | none =>
    rw [hi] at hs
    obtain ⟨ks, hk, rfl⟩ := Option.map_eq_some_iff.mp hs
    have e := asTs_eq hk
    have tu : ∀ (vs : List Value) (ds' : List D), Paired (VD X H O) vs ds' → ds'.Perm ds → ∀ v ∈ vs, ∃ ns, TS.TupInts s.heap v ns := fun vs ds' p pm => by
      rw [e] at pm
      obtain ⟨ks', rfl, _⟩ := perm_map_inv pm
      exact vd_tups I p
    refine sorted_coll (ltv := ltTu s.heap) (swo_tu _) hc (fun vs ⟨ds', p, pm⟩ => by rw [Paired.length p, pm.length_eq]; exact hz) (fun vs ⟨ds', p, pm⟩ h2 s1 a ha k => ?_) fun vs out hm s1 p c ⟨ds', pv, pm⟩ h1 h2 k0 k g o hp hg => ?_
    · have t1 : TupsA s1.heap vs := fun v hv => by
        obtain ⟨ns, x⟩ := tu vs ds' p pm v hv
        exact ⟨ns, x.keeps fun b o e _ => k b o e⟩
      have := tups_sortable (s := s1) (A := X.A.in1.in1) (prog := X.prog) (w := X.w) (a := a) ua h2 t1 fun o e => by
        rw [ha] at e
        cases e
        intro c
        exact absurd (Value.type.inj c) (by decide)
      have ei : ∀ v ∈ vs, TS.intsOf s1.heap v = TS.intsOf s.heap v := fun v hv => by
        obtain ⟨ns, x⟩ := tu vs ds' p pm v hv
        rw [x.ints, (x.keeps (h' := s1.heap) fun b o e _ => k b o e).ints]
      intro h' kp
      obtain ⟨κ, b1, b2⟩ := this h' kp
      refine ⟨κ, b1, fun p q hp hq => ?_⟩
      have := b2 p q hp hq
      have e2 : SrtO.lt2 (ltTu s1.heap) p q = SrtO.lt2 (ltTu s.heap) p q := by
        show HT.lexLt _ _ = HT.lexLt _ _
        rw [ei _ hp, ei _ hq]
      rw [e2] at this
      exact this
    · obtain ⟨fs, h3, h4⟩ := paired_perm h2 pv
      have h4 := h4.trans pm
      rw [e] at h4
      obtain ⟨ms, rfl, h5⟩ := perm_map_inv h4
      refine fin _ out hm s1 p c h3 ?_ k0 k g o hp hg ?_
      · rw [sortT_eq h5 ?_]
        have := paired_pw (G := fun a b : D => ∀ i j, a = dTI i → b = dTI j → HT.lexLt j i = false) (fun a b a' b' r r' h i j e1 e2 => by
          subst e1 e2
          have h : HT.lexLt (TS.intsOf s.heap a') (TS.intsOf s.heap a) = false := h
          rw [(vd_tup I r).ints, (vd_tup I r').ints] at h
          exact h) h3 h1
        rw [List.pairwise_map] at this
        exact this.imp fun h => h _ _ rfl rfl
      · rw [h2.length_eq, Paired.length pv, pm.length_eq]; exact hz
/-- a key tuple as it stands in the heap holds its data -/
theorem key_rp {H : Hp} {O : Addr → Prop} {b : Addr} {k : List Int} (h : H b = some (.tup ((k.map Sum.inl : List Key).map kV))) : Rp X.K H O (.ref b) (dTI k) := by
  refine .tup h ?_
  have e : (k.map Sum.inl : List Key).map kV = k.map V.int := by rw [List.map_map]; rfl
  rw [e]
  exact RpAll.ints.mpr rfl
def gSort : List D → Option Val
  | [.lst ds] => (sortL ds).map fun es => .ow (.lst es)
  | [.tup ds] => (sortL ds).map fun es => .ow (.lst es)
  | [.dt kvs] => some (.ow (.lst ((sortT (kvs.map (·.1))).map dTI)))
  | _ => none
theorem sortL_tI {ks : List (List Int)} : sortL (ks.map dTI) = some ((sortT ks).map dTI) := by
  unfold sortL
  cases ks with
  | nil => simp [asIs, sortI, sortT]
  | cons k ks =>
    have e : asIs ((k :: ks).map dTI) = none := rfl
    rw [e, asTs_tI]; rfl
theorem cr_sort (hcalm : X.calm = true) (hu : X.A.units + 64 < cLine) : CallR X (.builtin "sorted") (rDs X gSort) := by
  intro pins s σ H vs us Q I r h
  obtain ⟨O, ds, rr, rd, g, q⟩ := h
  unfold gSort at g
  split at g
  · rename_i ds'
    obtain ⟨es, he, rfl⟩ := Option.map_eq_some_iff.mp g
    cases rd with
    | cons h1 h2 =>
      cases h2
      obtain ⟨a, xs, rfl, hs, ra⟩ := h1.lst
      obtain ⟨its, rv, hl, hz⟩ := I.list hs
      rw [Vals.ref1 r]
      have pr := vd_of rv ra
      exact sorted_d hu I (fun R E h => coll_list hl.isList (by rw [← rv.length]; exact hz) R E fun s1 vs k g o e => h s1 vs k g o ⟨_, by rw [e]; exact pr, .refl _⟩) (by rw [← ra.length]; exact hz) he q
  · rename_i ds'
    obtain ⟨es, he, rfl⟩ := Option.map_eq_some_iff.mp g
    cases rd with
    | cons h1 h2 =>
      cases h2
      obtain ⟨a, xs, rfl, hs, ra⟩ := h1.tup
      obtain ⟨its, rv, hl, hz⟩ := I.tuple (SqT.of hs)
      rw [Vals.ref1 r]
      have pr := vd_of rv ra
      exact sorted_d hu I (fun R E h => coll_tup hl (by rw [← rv.length]; exact hz) R E fun s1 vs k g o e => h s1 vs k g o ⟨_, by rw [e]; exact pr, .refl _⟩) (by rw [← ra.length]; exact hz) he q
  · rename_i kvs
    cases g
    cases rd with
    | cons h1 h2 =>
      cases h2
      obtain ⟨a, rfl, hd⟩ := h1.dt
      rw [Vals.ref1 r]
      obtain ⟨z, hs, ks, pr, o, es, ep, ho, hx, hdt, he, hn⟩ := (show ObjOk X.prog X.w H s.heap a (.dT (kvs.map kT)) from hd.ok I.hok)
      have l1 : es.size = ks.length := size_of_entries he
      have l2 : (kvs.map kT).length = ks.length := Paired.length pr
      have prd : Paired (VD X H O) (ks.map fun x => Value.ref x.2.1) ((kvs.map (·.1)).map dTI) := by
        have : ∀ {kvs : List (List Int × V)} {ks : List (List Key × Addr × Value)}, KT H (kvs.map kT) ks → Paired (VD X H O) (ks.map fun x => Value.ref x.2.1) ((kvs.map (·.1)).map dTI) := by
          intro kvs
          induction kvs with
          | nil => intro ks h; cases h; exact .nil
          | cons kv kvs ih =>
            intro ks h
            cases h with
            | cons h t =>
              rename_i b bs
              refine .cons ⟨.ref b.2.1, rfl, ?_⟩ (ih t)
              exact key_rp (h.2.1)
        exact this pr
      refine sorted_d (ds := (kvs.map (·.1)).map dTI) hu I (fun R E h => ?_) (by rw [List.length_map] at z l2; rw [List.length_map, List.length_map]; exact z) sortL_tI q
      refine PySem.W.kdu_collect (kdl_raw hs hx hdt) (I.ok.hd hcalm) ho (by omega) fun h' tk acc hk hacc => ?_
      refine h _ _ hk rfl rfl ?_
      have ea : acc.toList = ks.map fun x => Value.ref x.2.1 := by
        have hl : acc.toList.length = ks.length := by rw [Array.length_toList, hacc.1]; exact l1
        apply List.ext_getElem?
        intro j
        rw [List.getElem?_map]
        cases hj : acc.toList[j]? with
        | none =>
          have h1 := List.getElem?_eq_none_iff.mp hj
          rw [List.getElem?_eq_none (by omega)]
          all_goals rfl
        | some v =>
          obtain ⟨en, hen, hv⟩ := hacc.2 j v (by rw [← Array.getElem?_toList]; exact hj)
          have qe := entry_at he j
          rw [hen] at qe
          cases hb : ks[j]? with
          | none =>
            rw [hb] at qe
            exact nomatch (show some en = none from qe)
          | some b =>
            rw [hb] at qe
            have e2 : en = entryOfKey (tupleKind (mixKind X.prog X.w)) b := Option.some.inj qe
            rw [hv, e2]
            all_goals rfl
      rw [ea]
      exact ⟨_, prd, .refl _⟩
  · cases g
end
end Lf

set_option Elab.async false
set_option linter.all false
set_option maxRecDepth 100000
/-! Lf, part J: operators, comparisons, subscripts, slices at the data level. -/
namespace Lf
open PySem PySem.Spec L2

section
variable {X : Cx}
theorem opD {f : Value → Value → Sem Value} {g : D → D → Option Val} (h : ∀ (pins : List (Addr × Obj)) (s : Shared) (σ : St) (H : Hp) (O : Addr → Prop) (x y : V) (v u : Value) (dx dy : D) (r : Val) (Q : VK), Inv X pins σ H s → RelV x v → RelV y u → Rd1 X.K H O x dx → Rd1 X.K H O y dy → g dx dy = some r →
    (∀ v H' O', NP X.K H O r v H' O' → Q v H') → wpAny (model X.prog X.w) X.A (f v u) (EP X pins σ Q) X.xe s) : OpR X f (rD2 X g) :=
  fun pins s σ H x y v u Q I rx ry ⟨O, dx, dy, r, hx, hy, hg, q⟩ => h pins s σ H O x y v u dx dy r Q I rx ry hx hy hg q
/-- two ints -/
def g2I (C : Int → Int → Bool) (g : Int → Int → D) : D → D → Option Val
  | .int i, .int j => if C i j = true then some (.sh (g i j)) else none
  | _, _ => none
theorem op2I {f : Value → Value → Sem Value} {C : Int → Int → Bool} {g : Int → Int → D} {CP : Int → Int → Prop} {gv : Int → Int → V} (ho : OpR X f (rI CP gv)) (hc : ∀ i j, C i j = true → CP i j) (hg : ∀ K O H i j, Rp K H O (gv i j) (g i j)) : OpR X f (rD2 X (g2I C g)) :=
  opD fun pins s σ H O x y v u dx dy r Q I rx ry hx hy e q => by
    unfold g2I at e
    split at e
    · rename_i i j
      by_cases c : C i j = true
      · rw [if_pos c] at e
        cases e
        exact ho pins s σ H x y v u Q I rx ry ⟨i, j, hx.int, hy.int, hc i j c, q _ _ _ (NP.flat (hg X.K O H i j))⟩
      · rw [if_neg c] at e; cases e
    · cases e
theorem op2I0 {f : Value → Value → Sem Value} {g : Int → Int → D} {gv : Int → Int → V} (ho : OpR X f (rI0 gv)) (hg : ∀ K O H i j, Rp K H O (gv i j) (g i j)) : OpR X f (rD2 X (g2I (fun _ _ => true) g)) :=
  opD fun pins s σ H O x y v u dx dy r Q I rx ry hx hy e q => by
    unfold g2I at e
    split at e
    · rename_i i j
      cases e
      exact ho pins s σ H x y v u Q I rx ry ⟨i, j, hx.int, hy.int, q _ _ _ (NP.flat (hg X.K O H i j))⟩
    · cases e
def gSub := g2I (fun _ _ => true) fun i j => .int (i - j)
def gMul := g2I (fun i j => decide ((-(2 ^ 64) < i ∧ i < 2 ^ 64) ∨ (-(2 ^ 64) < j ∧ j < 2 ^ 64))) fun i j => .int (i * j)
def gFdiv := g2I (fun i j => decide (j ≠ 0 ∧ j.natAbs < 1073741824)) fun i j => .int (i.fdiv j)
def gMod := g2I (fun i j => decide (j ≠ 0)) fun i j => .int (i.fmod j)
def gPow := g2I (fun i j => decide (0 ≤ j ∧ j ≤ 1000000 ∧ i.natAbs < 2 ^ 64)) fun i j => .int (i ^ j.toNat)
def gShl := g2I (fun i j => decide (0 ≤ j ∧ j ≤ 1000000 ∧ i.natAbs < 2 ^ 64)) fun i j => .int (i * 2 ^ j.toNat)
def gShr := g2I (fun i j => decide (0 ≤ j)) fun i j => .int (i / 2 ^ j.toNat)
def gAnd := g2I (fun _ _ => true) fun i j => .int (Builtin.bitAnd i j)
def gOr := g2I (fun _ _ => true) fun i j => .int (Builtin.bitOr i j)
def gXor := g2I (fun _ _ => true) fun i j => .int (Builtin.bitXor i j)
theorem od_sub : OpR X (binaryOp .Sub) (rD2 X gSub) := op2I0 op_sub fun _ _ _ _ _ => .int _
theorem od_mul : OpR X (binaryOp .Mult) (rD2 X gMul) := op2I op_mul (fun i j h => by unfold CMul; simpa using h) fun _ _ _ _ _ => .int _
theorem od_fdiv : OpR X (binaryOp .FloorDiv) (rD2 X gFdiv) := op2I op_fdivN (fun i j h => by unfold CDivN; simpa using h) fun _ _ _ _ _ => .int _
theorem od_mod : OpR X (binaryOp .Mod) (rD2 X gMod) := op2I op_modN (fun i j h => of_decide_eq_true h) fun _ _ _ _ _ => .int _
theorem od_pow : OpR X (binaryOp .Pow) (rD2 X gPow) := op2I op_pow (fun i j h => by unfold CPow; simpa using h) fun _ _ _ _ _ => .int _
theorem od_shl : OpR X (binaryOp .LShift) (rD2 X gShl) := op2I op_shl (fun i j h => by unfold CPow; simpa using h) fun _ _ _ _ _ => .int _
theorem od_shr : OpR X (binaryOp .RShift) (rD2 X gShr) := op2I op_shr (fun i j h => of_decide_eq_true h) fun _ _ _ _ _ => .int _
theorem od_and : OpR X (binaryOp .BitAnd) (rD2 X gAnd) := op2I0 op_and fun _ _ _ _ _ => .int _
theorem od_or : OpR X (binaryOp .BitOr) (rD2 X gOr) := op2I0 op_or fun _ _ _ _ _ => .int _
theorem od_xor : OpR X (binaryOp .BitXor) (rD2 X gXor) := op2I0 op_xor fun _ _ _ _ _ => .int _
/-- +: ints, texts, lists, tuples -/
def gAdd : D → D → Option Val
  | .int i, .int j => some (.sh (.int (i + j)))
  | .str a, .str b => if a.length + b.length ≤ sizeLine then some (.sh (.str (a ++ b))) else none
  | .lst xs, .lst ys => if xs.length + ys.length ≤ sizeLine then some (.ow (.lst (xs ++ ys))) else none
  | .tup xs, .tup ys => if xs.length + ys.length ≤ sizeLine then some (.sh (.tup (xs ++ ys))) else none
  | _, _ => none
theorem rp_tup {K : PySem.W.Frag} {H : Hp} {O : Addr → Prop} {a : Addr} {xs : List V} {ds : List D} (h : H a = some (.tup xs)) (r : RpAll K H O xs ds) : Rp K H O (.ref a) (.tup ds) := .tup h r
theorem od_add : OpR X (binaryOp .Add) (rD2 X gAdd) := opD fun pins s σ H O x y v u dx dy r Q I rx ry hx hy e q => by
  unfold gAdd at e
  split at e
  · rename_i i j
    cases e
    exact op_add pins s σ H x y v u Q I rx ry ⟨i, j, hx.int, hy.int, q _ _ _ (NP.flat (.int _))⟩
  · rename_i a b
    by_cases c : a.length + b.length ≤ sizeLine
    · rw [if_pos c] at e
      cases e
      exact op_add_str pins s σ H x y v u Q I rx ry ⟨a, b, hx.str, hy.str, c, q _ _ _ (NP.flat (.str _))⟩
    · rw [if_neg c] at e; cases e
  · rename_i ds es
    by_cases c : ds.length + es.length ≤ sizeLine
    · rw [if_pos c] at e
      cases e
      obtain ⟨a, xs, rfl, h1, r1⟩ := hx.lst
      obtain ⟨b, ys, rfl, h2, r2⟩ := hy.lst
      cases rx
      cases ry
      obtain ⟨its, v1, p1, z1⟩ := I.list h1
      obtain ⟨its2, v2, p2, z2⟩ := I.list h2
      obtain ⟨⟨cls, dd, data, sl⟩, ho, hc, n, hd⟩ := p1.isList
      obtain ⟨⟨cls2, dd2, data2, sl2⟩, ho2, hc2, n2, hd2⟩ := p2.isList
      simp only at hc hd hc2 hd2
      subst hc hd hc2 hd2
      have lz : its.length + its2.length ≤ sizeLine := by rw [← v1.length, ← v2.length, r1.length, r2.length]; exact c
      refine concat_meets ⟨_, ho, rfl⟩ ⟨_, ho2, rfl⟩ noFill_list_add seq_list_add PySem.F.slot_list_add PySem.F.entry_list_add (PySem.F.args_list_add_2 _ _)
        (PyProof.Rows.list_addW a b its.toArray its2.toArray n n2 dd dd2 sl sl2 (by rw [List.size_toArray, List.size_toArray]; exact lz)) ⟨ho, ho2, ?_⟩
      have ea : its.toArray ++ its2.toArray = (its ++ its2).toArray := by simp
      rw [ea]
      exact ⟨.ref _, _, I.lnew (t' := s.toks) (v1.append v2) (by rw [List.length_append, r1.length, r2.length]; exact c), rfl, q _ _ _ (NP.newL I.fresh (r1.append r2))⟩
    · rw [if_neg c] at e; cases e
  · rename_i ds es
    by_cases c : ds.length + es.length ≤ sizeLine
    · rw [if_pos c] at e
      cases e
      obtain ⟨a, xs, rfl, h1, r1⟩ := hx.tup
      obtain ⟨b, ys, rfl, h2, r2⟩ := hy.tup
      refine op_catA pins s σ H _ _ v u Q I rx ry ⟨a, b, xs, ys, rfl, rfl, SqT.of h1, SqT.of h2, by rw [r1.length, r2.length]; exact c, fun e => ?_, fun _ e => ?_, fun _ _ p hp => q _ _ _ (NP.newT hp (r1.append r2))⟩
      · subst e
        cases r1
        exact q _ _ _ (NP.flat (rp_tup h2 r2))
      · subst e
        cases r2
        rw [List.append_nil] at q
        exact q _ _ _ (NP.flat (rp_tup h1 r1))
    · rw [if_neg c] at e; cases e
  · cases e

/-! ### comparisons -/
def gLt : D → D → Option Val
  | .int i, .int j => some (.sh (.bl (decide (i < j))))
  | .tup xs, .tup ys => (asIs xs).bind fun a => (asIs ys).map fun b => .sh (.bl (HT.lexLt a b))
  | _, _ => none
theorem od_lt (hu : X.A.units + 64 < cLine) : OpR X (compareOp .Lt) (rD2 X gLt) := opD fun pins s σ H O x y v u dx dy r Q I rx ry hx hy e q => by
  unfold gLt at e
  split at e
  · rename_i i j
    cases e
    exact op_lt pins s σ H x y v u Q I rx ry ⟨i, j, hx.int, hy.int, q _ _ _ (NP.flat (.bl _))⟩
  · rename_i xs ys
    obtain ⟨a, e1, e⟩ := Option.bind_eq_some_iff.mp e
    obtain ⟨b, e2, rfl⟩ := Option.map_eq_some_iff.mp e
    rw [asIs_eq e1] at hx
    rw [asIs_eq e2] at hy
    obtain ⟨p, us, rfl, h1, r1⟩ := hx.tup
    obtain ⟨p2, ws, rfl, h2, r2⟩ := hy.tup
    have r1 := RpAll.ints.mp r1
    have r2 := RpAll.ints.mp r2
    subst r1 r2
    exact op_ltT (by omega) pins s σ H _ _ v u Q I rx ry ⟨p, p2, a, b, rfl, rfl, SqT.of h1, SqT.of h2, q _ _ _ (NP.flat (.bl _))⟩
  · cases e
def gLe := g2I (fun _ _ => true) fun i j => .bl (decide (i ≤ j))
def gGt := g2I (fun _ _ => true) fun i j => .bl (decide (j < i))
def gGe := g2I (fun _ _ => true) fun i j => .bl (decide (j ≤ i))
theorem od_le : OpR X (compareOp .LtE) (rD2 X gLe) := op2I0 op_le fun _ _ _ _ _ => .bl _
theorem od_gt : OpR X (compareOp .Gt) (rD2 X gGt) := op2I0 op_gt fun _ _ _ _ _ => .bl _
theorem od_ge : OpR X (compareOp .GtE) (rD2 X gGe) := op2I0 op_ge fun _ _ _ _ _ => .bl _
mutual
def toP : D → Option PyData
  | .non => some .none
  | .bl b => some (.bool b)
  | .int i => some (.int i)
  | .str x => some (.str x)
  | .tup ds => (toPs ds).map .tuple
  | .lst ds => (toPs ds).map .list
  | .dk _ => none
  | .dt _ => none
def toPs : List D → Option (List PyData)
  | [] => some []
  | d :: ds => (toP d).bind fun p => (toPs ds).map fun ps => p :: ps
end
section
variable {K : PySem.W.Frag} {H : Hp} {O : Addr → Prop}
mutual
theorem Rp.dp : ∀ {d : D} {v : V} {p : PyData}, Rp K H O v d → toP d = some p → Dp K H v p
  | .non, _, _, h, e => by cases h; unfold toP at e; cases e; exact .non
  | .bl b, _, _, h, e => by cases h; unfold toP at e; cases e; exact .bl b
  | .int i, _, _, h, e => by cases h; unfold toP at e; cases e; exact .int i
  | .str x, _, _, h, e => by cases h; unfold toP at e; cases e; exact .str x
  | .tup ds, _, _, h, e => by
    unfold toP at e
    obtain ⟨ps, e1, rfl⟩ := Option.map_eq_some_iff.mp e
    cases h with
    | tup h1 h2 => exact .tup (SqT.of h1) (RpAll.dp h2 e1)
  | .lst ds, _, _, h, e => by
    unfold toP at e
    obtain ⟨ps, e1, rfl⟩ := Option.map_eq_some_iff.mp e
    cases h with
    | lst h1 _ h2 => exact .lst (.inl h1) (RpAll.dp h2 e1)
    | lstK h1 h2 => exact .lst (.inr h1) (RpAll.dp h2 e1)
  | .dk _, _, _, _, e => by unfold toP at e; cases e
  | .dt _, _, _, _, e => by unfold toP at e; cases e
theorem RpAll.dp : ∀ {ds : List D} {vs : List V} {ps : List PyData}, RpAll K H O vs ds → toPs ds = some ps → DpAll K H vs ps
  | [], _, _, h, e => by cases h; unfold toPs at e; cases e; exact .nil
  | d :: ds, _, _, h, e => by
    unfold toPs at e
    obtain ⟨p, e1, e⟩ := Option.bind_eq_some_iff.mp e
    obtain ⟨ps, e2, rfl⟩ := Option.map_eq_some_iff.mp e
    cases h with
    | cons h1 h2 => exact .cons (Rp.dp h1 e1) (RpAll.dp h2 e2)
end
theorem Rd1.dp {d : D} {v : V} {p : PyData} (h : Rd1 K H O v d) (e : toP d = some p) : Dp K H v p := by
  rcases h with h | ⟨a, rfl, n, h⟩
  · exact h.dp e
  · cases d with
    | lst ds =>
      unfold toP at e
      obtain ⟨ps, e1, rfl⟩ := Option.map_eq_some_iff.mp e
      obtain ⟨xs, h1, h2⟩ := h
      exact .lst (.inl h1) (RpAll.dp h2 e1)
    | dk _ => unfold toP at e; cases e
    | dt _ => unfold toP at e; cases e
    | _ => exact h.elim
end
/-- == of data -/
def eqD (a b : D) : Option Bool := (toP a).bind fun p => (toP b).bind fun q => if SeqAt.shaped p = true ∧ SeqAt.shaped q = true then some (PyData.eqv p q) else none
def gEq (a b : D) : Option Val := (eqD a b).map fun k => .sh (.bl k)
def gNe (a b : D) : Option Val := (eqD a b).map fun k => .sh (.bl (!k))
theorem eqD_ok {a b : D} {k : Bool} (h : eqD a b = some k) : ∃ p q, toP a = some p ∧ toP b = some q ∧ SeqAt.shaped p = true ∧ SeqAt.shaped q = true ∧ k = PyData.eqv p q := by
  unfold eqD at h
  obtain ⟨p, h1, h⟩ := Option.bind_eq_some_iff.mp h
  obtain ⟨q, h2, h⟩ := Option.bind_eq_some_iff.mp h
  by_cases c : SeqAt.shaped p = true ∧ SeqAt.shaped q = true
  · rw [if_pos c] at h
    cases h
    exact ⟨p, q, h1, h2, c.1, c.2, rfl⟩
  · rw [if_neg c] at h; cases h
theorem od_eq (hu : X.A.units + 64 < cLine) : OpR X (compareOp .Eq) (rD2 X gEq) := opD fun pins s σ H O x y v u dx dy r Q I rx ry hx hy e q => by
  obtain ⟨k, e1, rfl⟩ := Option.map_eq_some_iff.mp e
  obtain ⟨p, p2, h1, h2, s1, s2, rfl⟩ := eqD_ok e1
  exact op_eqD hu pins s σ H x y v u Q I rx ry ⟨p, p2, hx.dp h1, hy.dp h2, s1, s2, q _ _ _ (NP.flat (.bl _))⟩
theorem od_ne (hu : X.A.units + 64 < cLine) : OpR X (compareOp .NotEq) (rD2 X gNe) := opD fun pins s σ H O x y v u dx dy r Q I rx ry hx hy e q => by
  obtain ⟨k, e1, rfl⟩ := Option.map_eq_some_iff.mp e
  obtain ⟨p, p2, h1, h2, s1, s2, rfl⟩ := eqD_ok e1
  exact op_neD hu pins s σ H x y v u Q I rx ry ⟨p, p2, hx.dp h1, hy.dp h2, s1, s2, q _ _ _ (NP.flat (.bl _))⟩
/-- x in c -/
def inD (a : D) : D → Option Bool
  | .lst ds => (toP a).bind fun p => (toPs ds).bind fun ps => if SeqAt.shaped p = true ∧ SeqAt.shaped (.list ps) = true then some (ps.any fun z => PyData.eqv z p) else none
  | .tup ds => (toP a).bind fun p => (toPs ds).bind fun ps => if SeqAt.shaped p = true ∧ SeqAt.shaped (.list ps) = true then some (ps.any fun z => PyData.eqv z p) else none
  | _ => none
def gIn (a b : D) : Option Val := (inD a b).map fun k => .sh (.bl k)
def gNin (a b : D) : Option Val := (inD a b).map fun k => .sh (.bl (!k))
theorem inD_ok {a b : D} {k : Bool} (h : inD a b = some k) : ∃ ds p ps, (b = .lst ds ∨ b = .tup ds) ∧ toP a = some p ∧ toPs ds = some ps ∧ SeqAt.shaped p = true ∧ SeqAt.shaped (.list ps) = true ∧ k = ps.any fun z => PyData.eqv z p := by
  unfold inD at h
  split at h
  · rename_i ds
    obtain ⟨p, h1, h⟩ := Option.bind_eq_some_iff.mp h
    obtain ⟨q, h2, h⟩ := Option.bind_eq_some_iff.mp h
    by_cases c : SeqAt.shaped p = true ∧ SeqAt.shaped (.list q) = true
    · rw [if_pos c] at h
      cases h
      exact ⟨ds, p, q, .inl rfl, h1, h2, c.1, c.2, rfl⟩
    · rw [if_neg c] at h; cases h
  · rename_i ds
    obtain ⟨p, h1, h⟩ := Option.bind_eq_some_iff.mp h
    obtain ⟨q, h2, h⟩ := Option.bind_eq_some_iff.mp h
    by_cases c : SeqAt.shaped p = true ∧ SeqAt.shaped (.list q) = true
    · rw [if_pos c] at h
      cases h
      exact ⟨ds, p, q, .inr rfl, h1, h2, c.1, c.2, rfl⟩
    · rw [if_neg c] at h; cases h
  · cases h
theorem od_in (hu : X.A.units + 65 < cLine) : OpR X (compareOp .In) (rD2 X gIn) := opD fun pins s σ H O x y v u dx dy r Q I rx ry hx hy e q => by
  obtain ⟨k, e1, rfl⟩ := Option.map_eq_some_iff.mp e
  obtain ⟨ds, p, ps, hb, h1, h2, s1, s2, rfl⟩ := inD_ok e1
  obtain ⟨as, r1⟩ := Dp.reads I p x v (hx.dp h1) rx
  rcases hb with rfl | rfl
  · exact op_inD hu pins s σ H x y v u Q I rx ry ⟨p, ps, hx.dp h1, hy.dp (p := .list ps) (by unfold toP; rw [h2]; rfl), s1, s2, q _ _ _ (NP.flat (.bl _))⟩
  · obtain ⟨bs, r2⟩ := Dp.reads I (.tuple ps) y u (hy.dp (by unfold toP; rw [h2]; rfl)) ry
    exact SeqAt.in_tuple_reads r2 r1 (SeqAt.canLay_of_shaped s2) (SeqAt.canLay_of_shaped s1) (PyProof.Rows.room_in_shaped s1 hu) ⟨.bl _, H, I, rfl, q _ _ _ (NP.flat (.bl _))⟩
theorem od_nin (hu : X.A.units + 65 < cLine) : OpR X (compareOp .NotIn) (rD2 X gNin) := opD fun pins s σ H O x y v u dx dy r Q I rx ry hx hy e q => by
  obtain ⟨k, e1, rfl⟩ := Option.map_eq_some_iff.mp e
  obtain ⟨ds, p, ps, hb, h1, h2, s1, s2, rfl⟩ := inD_ok e1
  obtain ⟨as, r1⟩ := Dp.reads I p x v (hx.dp h1) rx
  rcases hb with rfl | rfl
  · exact op_notInD hu pins s σ H x y v u Q I rx ry ⟨p, ps, hx.dp h1, hy.dp (p := .list ps) (by unfold toP; rw [h2]; rfl), s1, s2, q _ _ _ (NP.flat (.bl _))⟩
  · obtain ⟨bs, r2⟩ := Dp.reads I (.tuple ps) y u (hy.dp (by unfold toP; rw [h2]; rfl)) ry
    exact SeqAt.notIn_tuple_reads r2 r1 (SeqAt.canLay_of_shaped s2) (SeqAt.canLay_of_shaped s1) (PyProof.Rows.room_in_shaped s1 hu) ⟨.bl _, H, I, rfl, q _ _ _ (NP.flat (.bl _))⟩
/-- is None, is not None; is True .. -/
def isNone : D → Bool
  | .non => true
  | _ => false
def gIs (a : D) : D → Option Val
  | .non => some (.sh (.bl (isNone a)))
  | .bl b => match a with
    | .bl c => some (.sh (.bl (decide (c = b))))
    | _ => none
  | _ => none
def gIsNot (a : D) : D → Option Val
  | .non => some (.sh (.bl (!isNone a)))
  | .bl b => match a with
    | .bl c => some (.sh (.bl (!decide (c = b))))
    | _ => none
  | _ => none
theorem Rd1.isNone {K : PySem.W.Frag} {H : Hp} {O : Addr → Prop} {v : V} {d : D} (h : Rd1 K H O v d) : decide (v = .non) = Lf.isNone d := by
  rcases h with h | ⟨a, rfl, n, h⟩
  · cases h <;> rfl
  · cases d <;> first | exact h.elim | rfl
theorem od_is : OpR X (compareOp .Is) (rD2 X gIs) := opD fun pins s σ H O x y v u dx dy r Q I rx ry hx hy e q => by
  unfold gIs at e
  split at e
  · cases e
    refine op_isN pins s σ H x y v u Q I rx ry ⟨hy.non, ?_⟩
    rw [hx.isNone]
    exact q _ _ _ (NP.flat (.bl _))
  · split at e
    · cases e
      exact op_is_bl pins s σ H x y v u Q I rx ry ⟨_, _, hx.bl, hy.bl, q _ _ _ (NP.flat (.bl _))⟩
    · cases e
  · cases e
theorem od_isnot : OpR X (compareOp .IsNot) (rD2 X gIsNot) := opD fun pins s σ H O x y v u dx dy r Q I rx ry hx hy e q => by
  unfold gIsNot at e
  split at e
  · cases e
    refine op_notN pins s σ H x y v u Q I rx ry ⟨hy.non, ?_⟩
    rw [hx.isNone]
    exact q _ _ _ (NP.flat (.bl _))
  · split at e
    · cases e
      exact op_isnot_bl pins s σ H x y v u Q I rx ry ⟨_, _, hx.bl, hy.bl, q _ _ _ (NP.flat (.bl _))⟩
    · cases e
  · cases e

/-! ### subscripts, slices -/
def gIx : D → D → Option Val
  | .tup ds, .int i => (atI ds i).map .sh
  | .lst ds, .int i => (atI ds i).map .sh
  | _, _ => none
theorem atI_all {K : PySem.W.Frag} {H : Hp} {O : Addr → Prop} {xs : List V} {ds : List D} {i : Int} {d : D} (r : RpAll K H O xs ds) (e : atI ds i = some d) : ∃ v, atI xs i = some v ∧ Rp K H O v d := by
  unfold atI at e ⊢
  rw [r.length]
  obtain ⟨j, e1, e⟩ := Option.bind_eq_some_iff.mp e
  obtain ⟨v, e2, rv⟩ := r.get e
  exact ⟨v, by rw [e1]; exact e2, rv⟩
theorem id_ix : IxR X (rD2 X gIx) := by
  intro value slice pins s σ H x y v u Q I rx ry ⟨O, dx, dy, r, hx, hy, e, q⟩ hs
  unfold gIx at e
  split at e
  · rename_i ds i
    obtain ⟨d, e1, rfl⟩ := Option.map_eq_some_iff.mp e
    obtain ⟨a, xs, rfl, h1, r1⟩ := hx.tup
    obtain ⟨w, e2, rw'⟩ := atI_all r1 e1
    exact ix_tup value slice pins s σ H _ y v u Q I rx ry ⟨a, xs, i, w, rfl, hy.int, SqT.of h1, e2, q _ _ _ (NP.flat rw')⟩ hs
  · rename_i ds i
    obtain ⟨d, e1, rfl⟩ := Option.map_eq_some_iff.mp e
    obtain ⟨a, xs, rfl, h1, r1⟩ := hx.lst
    obtain ⟨w, e2, rw'⟩ := atI_all r1 e1
    exact ix_list value slice pins s σ H _ y v u Q I rx ry ⟨a, xs, i, w, rfl, hy.int, h1, e2, q _ _ _ (NP.flat rw')⟩ hs
  · cases e
def cutD (xs : List D) (lo hi : Option Int) : List D := (xs.drop (HT.sIx xs.length 0 lo)).take (HT.sIx xs.length xs.length hi - HT.sIx xs.length 0 lo)
theorem cut_all {K : PySem.W.Frag} {H : Hp} {O : Addr → Prop} {xs : List V} {ds : List D} {lo hi : Option Int} (r : RpAll K H O xs ds) : RpAll K H O (cutV xs lo hi) (cutD ds lo hi) := by
  unfold cutV cutD
  rw [r.length]
  exact (r.drop _).take _
theorem sIx_le {n : Nat} : ∀ {hi : Option Int} {d : Nat}, d ≤ n → HT.sIx n d hi ≤ n
  | none, d, h => h
  | some i, d, h => by
    show (if i < 0 then (i + n).toNat else min i.toNat n) ≤ n
    split <;> omega
theorem cut_whole {ds : List D} {lo hi : Option Int} (h : HT.sIx ds.length 0 lo = 0 ∧ HT.sIx ds.length ds.length hi = ds.length) : cutD ds lo hi = ds := by
  unfold cutD
  rw [h.1, h.2, List.drop_zero, Nat.sub_zero, List.take_length]
def slD (lo hi : Option Int) : D → Option Val
  | .tup ds => some (.sh (.tup (cutD ds lo hi)))
  | .lst ds => some (.ow (.lst (cutD ds lo hi)))
  | _ => none
def rSlD (X : Cx) : V → Option Int → Option Int → Hp → VK → Prop := fun x lo hi H Q => ∃ O dx r, Rd1 X.K H O x dx ∧ slD lo hi dx = some r ∧ ∀ v H' O', NP X.K H O r v H' O' → Q v H'
theorem sd_sl : SlR X (rSlD X) := by
  intro pins s σ H x v vl vu lo hi sl Q I rx hs pl pu ⟨O, dx, r, hx, e, q⟩
  unfold slD at e
  split at e
  · rename_i ds
    cases e
    obtain ⟨a, xs, rfl, h1, r1⟩ := hx.tup
    refine sl_tupA pins s σ H _ v vl vu lo hi sl Q I rx hs pl pu ⟨a, xs, rfl, SqT.of h1, fun w => ?_, fun _ p hp => q _ _ _ (NP.newT hp (cut_all r1))⟩
    rw [r1.length] at w
    rw [cut_whole w] at q
    exact q _ _ _ (NP.flat (rp_tup h1 r1))
  · rename_i ds
    cases e
    obtain ⟨a, xs, rfl, h1, r1⟩ := hx.lst
    exact sl_list pins s σ H _ v vl vu lo hi sl Q I rx hs pl pu ⟨a, xs, rfl, h1, fun p hp => q _ _ _ (NP.newL hp (cut_all r1))⟩
  · cases e
end
end Lf

set_option Elab.async false
set_option linter.all false
set_option maxRecDepth 100000
/-! Lf, part K: slices, chained comparisons, built-in calls. -/
namespace Lf
open PySem PySem.Spec L2

section
variable {X : Cx} {W : WX} {pos p2 : Pos} {a b c e : Expr} {es : List Expr} {f fa fb fc : Ev Val} {ρ ρ1 ρ' : Env} {σ : St} {H H1 : Hp} {O O1 : Addr → Prop}
/-! ### slices -/
def PostO (X : Cx) (W : WX) (ρ : Env) (σ : St) (H : Hp) (O : Addr → Prop) (Q : Option Int → Hp → Prop) : Option (R (Option Int)) → Prop
  | none => False
  | some (.er c) => ∀ cls d H', XR X.mg c cls d H' → FrX ρ σ H H' → W cls d σ H'
  | some (.ok b ρ') => ∀ H' O', RE X.K ρ' σ H' O' → Fr ρ σ H O ρ' σ H' O' → Q b H'
def tO (X : Cx) (W : WX) (f : Ev (Option Int)) : TO := fun σ H Q => ∃ ρ O, RE X.K ρ σ H O ∧ PostO X W ρ σ H O Q (f ρ)
structure VP (X : Cx) (W : WX) (e : Option Expr) (f : Ev (Option Int)) : Prop where
  po : PO X e (tO X W f)
theorem PO.imp {e : Option Expr} {t t' : TO} (h : PO X e t) (hi : ∀ σ H Q, t' σ H Q → t σ H Q) : PO X e t' := ⟨fun pins s σ H Q I q => h.run pins s σ H Q I (hi σ H Q q)⟩
theorem PostO.step {Q : Option Int → Hp → Prop} (F : Fr ρ σ H O ρ1 σ H1 O1) : ∀ {m : Option (R (Option Int))}, PostO X W ρ σ H O Q m → PostO X W ρ1 σ H1 O1 Q m
  | none, h => h
  | some (.er c), h => fun cls d H' x k => h cls d H' x (FrX.trans F k)
  | some (.ok r ρ'), h => fun H' O' E F' => h H' O' E (F.trans F')
def oNo : Ev (Option Int) := fun ρ => some (.ok none ρ)
def oAt (f : Ev Val) : Ev (Option Int) := fun ρ => bnd (f ρ) fun r ρ1 => match rd ρ1 r with
  | some (.int i) => some (.ok (some i) ρ1)
  | _ => none
theorem vp_no : VP X W none oNo := ⟨PO.imp po_none fun σ H Q ⟨ρ, O, E, p⟩ => p H O E Fr.refl⟩
theorem vp_at (h : VE X W e f) : VP X W (some e) (oAt f) := ⟨PO.imp (po_some h.pe) fun σ H Q ⟨ρ, O, E, p⟩ => by
  refine tV.mono (fun v H1 ⟨x, ρ1, O1, E1, V1, p1⟩ => ?_) (tV_bnd (Rst := fun ρ H O m => PostO X W ρ σ H O Q m) E (fun z => z) (fun c z => z) (fun _ _ _ _ F z => z.step F) p)
  split at p1
  · rename_i i q
    exact ⟨i, (V1.rd E1 q).int, p1 H1 O1 E1 Fr.refl⟩
  · exact p1.elim⟩
theorem tO_bnd {α : Type} {g : Ev (Option Int)} {k : Option Int → Env → Option (R α)} {Rst : Env → Hp → (Addr → Prop) → Option (R α) → Prop}
    (E : RE X.K ρ σ H O) (hn : ¬ Rst ρ H O none) (he : ∀ c, Rst ρ H O (some (.er c)) → ∀ cls d H', XR X.mg c cls d H' → FrX ρ σ H H' → W cls d σ H')
    (h : Rst ρ H O (bnd (g ρ) k)) {Q : Option Int → Hp → Prop} (hs : ∀ b ρ1 H1 O1, RE X.K ρ1 σ H1 O1 → Fr ρ σ H O ρ1 σ H1 O1 → Rst ρ H O (k b ρ1) → Q b H1) : tO X W g σ H Q := by
  refine ⟨ρ, O, E, ?_⟩
  cases q : g ρ with
  | none => rw [q] at h; exact hn h
  | some m =>
    rw [q] at h
    cases m with
    | er c => exact he c h
    | ok r ρ1 => exact fun H1 O1 E1 F => hs r ρ1 H1 O1 E1 F h
def xSl (fa : Ev Val) (fl fh : Ev (Option Int)) : Ev Val := fun ρ => bnd (fa ρ) fun x ρ1 => bnd (fl ρ1) fun l ρ2 => bnd (fh ρ2) fun h ρ3 => (rd ρ3 x).bind fun d => (slD l h d).map fun r => .ok r ρ3
theorem ve_sl {lo hi : Option Expr} {fl fh : Ev (Option Int)} (ha : VE X W a fa) (hl : VP X W lo fl) (hh : VP X W hi fh) : VE X W (.Subscript a (.Slice lo hi none p2) pos) (xSl fa fl fh) := ⟨PE.imp (pe_slice sd_sl ha.pe hl.po hh.po) fun σ H Q ⟨ρ, O, E, p⟩ => by
  refine tV.mono (fun v H1 ⟨x, ρ1, O1, E1, V1, p1⟩ => ?_) (tV_bndV E p)
  refine tO_bnd (Rst := fun ρ H O m => Post X W ρ σ H O Q m) E1 (fun z => z) (fun c z => z) p1 fun l ρ2 H2 O2 E2 F2 p2 => ?_
  have p2 := Post.step F2 p2
  refine tO_bnd (Rst := fun ρ H O m => Post X W ρ σ H O Q m) E2 (fun z => z) (fun c z => z) p2 fun h ρ3 H3 O3 E3 F3 p3 => ?_
  have p3 := Post.step F3 p3
  have V3 := (V1.later E1 F2).later E2 F3
  cases q1 : rd ρ3 x with
  | none => rw [q1] at p3; exact p3.elim
  | some d =>
    rw [q1] at p3
    have p3 : Post X W ρ3 σ H3 O3 Q ((slD l h d).map fun r => .ok r ρ3) := p3
    cases q2 : slD l h d with
    | none => rw [q2] at p3; exact p3.elim
    | some r =>
      rw [q2] at p3
      exact ⟨O3, d, r, V3.rd E3 q1, q2, fun v' H' O' n => p3 v' H' O' (n.post E3)⟩⟩
/-- xs[::-1] -/
def xRev (fa : Ev Val) : Ev Val := fun ρ => bnd (fa ρ) fun x ρ1 => match rd ρ1 x with
  | some (.lst ds) => some (.ok (.ow (.lst ds.reverse)) ρ1)
  | _ => none
theorem ve_rev {k : Nat} {q1 q2 q3 : Pos} (ha : VE X W a fa) : VE X W (.Subscript a (.Slice none none (some (.UnaryOp .USub (.Constant (.int 1) k q1) q2)) q3) pos) (xRev fa) := ⟨PE.imp (pe_revL ha.pe) fun σ H Q ⟨ρ, O, E, p⟩ => by
  refine tV.mono (fun v H1 ⟨x, ρ1, O1, E1, V1, p1⟩ => ?_) (tV_bndV E p)
  split at p1
  · rename_i ds q
    obtain ⟨a, xs, rfl, h1, r1⟩ := (V1.rd E1 q).lst
    exact ⟨a, xs, rfl, h1, fun p hp => p1 _ _ _ ((NP.newL hp r1.reverse).post E1)⟩
  · exact p1.elim⟩

/-! ### a op b op c -/
def xChain (g g' : D → D → Option Val) (fa fb fc : Ev Val) : Ev Val := fun ρ => bnd (fa ρ) fun x ρ1 => bnd (fb ρ1) fun y ρ2 => (rd ρ2 x).bind fun dx => (rd ρ2 y).bind fun dy => match g dx dy with
  | some (.sh (.bl true)) => bnd (fc ρ2) fun z ρ3 => fin2 g' y z ρ3
  | some (.sh (.bl false)) => some (.ok (.sh (.bl false)) ρ2)
  | _ => none
theorem chain_ok {g g' : D → D → Option Val} {Q : VK} (h : tV X W (xChain g g' fa fb fc) σ H Q) : tChain (rD2 X g) (rD2 X g') (tV X W fa) (tV X W fb) (tV X W fc) σ H Q := by
  obtain ⟨ρ, O, E, p⟩ := h
  refine tV.mono (fun v H1 ⟨x, ρ1, O1, E1, V1, p1⟩ => ?_) (tV_bndV E p)
  refine ⟨ρ1, O1, E1, ?_⟩
  cases q : fb ρ1 with
  | none => rw [q] at p1; exact p1
  | some m =>
    rw [q] at p1
    cases m with
    | er c => exact p1
    | ok y ρ2 =>
      intro u H2 O2 P
      have p2 := Post.step P.fr p1
      have V2 := V1.later E1 P.fr
      have p2 : Post X W ρ2 σ H2 O2 Q ((rd ρ2 x).bind fun dx => (rd ρ2 y).bind fun dy => match g dx dy with
        | some (.sh (.bl true)) => bnd (fc ρ2) fun z ρ3 => fin2 g' y z ρ3
        | some (.sh (.bl false)) => some (.ok (.sh (.bl false)) ρ2)
        | _ => none) := p2
      cases q1 : rd ρ2 x with
      | none => rw [q1] at p2; exact p2.elim
      | some dx =>
        rw [q1] at p2
        have p2 : Post X W ρ2 σ H2 O2 Q ((rd ρ2 y).bind fun dy => match g dx dy with
          | some (.sh (.bl true)) => bnd (fc ρ2) fun z ρ3 => fin2 g' y z ρ3
          | some (.sh (.bl false)) => some (.ok (.sh (.bl false)) ρ2)
          | _ => none) := p2
        cases q2 : rd ρ2 y with
        | none => rw [q2] at p2; exact p2.elim
        | some dy =>
          rw [q2] at p2
          have p2 : Post X W ρ2 σ H2 O2 Q (match g dx dy with
            | some (.sh (.bl true)) => bnd (fc ρ2) fun z ρ3 => fin2 g' y z ρ3
            | some (.sh (.bl false)) => some (.ok (.sh (.bl false)) ρ2)
            | _ => none) := p2
          split at p2
          · rename_i q3
            refine ⟨O2, dx, dy, _, V2.rd P.re q1, P.vr.rd P.re q2, q3, fun w H' O' n => ?_⟩
            have e : w = .bl true := by
              have z := n.vr
              cases z
              rfl
            refine ⟨true, e, ?_⟩
            rw [if_pos rfl]
            have N := n.post P.re
            refine tV.mono (fun z H4 ⟨dz, ρ3, O3, E3, V3, p3⟩ => ?_) (tV_bnd (ρ := ρ2) (O := O') (Rst := fun ρ' H O m => Post X W ρ' σ H O Q m ∧ VR X.K ρ' σ H O y u) N.re (fun z => z.1) (fun c z => z.1) (fun _ _ _ _ F z => ⟨z.1.step F, z.2.later N.re F⟩) ⟨Post.step N.fr p2, P.vr.later P.re N.fr⟩)
            exact fin2_ok E3 p3.2 V3 p3.1
          · rename_i q3
            refine ⟨O2, dx, dy, _, V2.rd P.re q1, P.vr.rd P.re q2, q3, fun w H' O' n => ?_⟩
            have e : w = .bl false := by
              have z := n.vr
              cases z
              rfl
            refine ⟨false, e, ?_⟩
            rw [if_neg (by simp)]
            have N := n.post P.re
            rw [e] at N
            exact p2 _ _ _ N
          · exact p2.elim
theorem ve_chain {op op' : CmpOp} {g g' : D → D → Option Val} (ho : OpR X (compareOp op) (rD2 X g)) (ho' : OpR X (compareOp op') (rD2 X g')) (ha : VE X W a fa) (hb : VE X W b fb) (hc : VE X W c fc)
    (hm : lastMarks [op, op'] [b, c] = false := by with_unfolding_all rfl) : VE X W (.Compare a [op, op'] [b, c] pos) (xChain g g' fa fb fc) := ⟨PE.imp (pe_chain ho ho' ha.pe hb.pe hc.pe hm) fun σ H Q => chain_ok⟩
/-- a bool as a test -/
def xB (f : Ev Val) : Ev Bool := fun ρ => bnd (f ρ) fun r ρ1 => asBl ρ1 r
theorem vt_of {t : TE} (h : PT X e (tTest t)) (hi : ∀ σ H Q, tV X W f σ H Q → t σ H Q) : VT X W e (xB f) := ⟨PT.imp h fun σ H Q ⟨ρ, O, E, p⟩ => by
  refine hi σ H _ (tV.mono (fun v H1 ⟨r, ρ1, O1, E1, V1, p1⟩ => ?_) (tV_bndT E p))
  match r, p1, V1 with
  | .sh (.bl k), p1, V1 =>
    cases V1
    exact ⟨k, rfl, p1 H1 O1 E1 Fr.refl⟩⟩
theorem vt_chain {op op' : CmpOp} {g g' : D → D → Option Val} (ho : OpR X (compareOp op) (rD2 X g)) (ho' : OpR X (compareOp op') (rD2 X g')) (ha : VE X W a fa) (hb : VE X W b fb) (hc : VE X W c fc)
    (hm : lastMarks [op, op'] [b, c] = false := by with_unfolding_all rfl) : VT X W (.Compare a [op, op'] [b, c] pos) (xB (xChain g g' fa fb fc)) := vt_of (pt_chain ho ho' ha.pe hb.pe hc.pe hm) fun σ H Q => chain_ok

/-! ### calls of built-ins -/
theorem clD {v : Value} {g : List D → Option Val} (h : ∀ (pins : List (Addr × Obj)) (s : Shared) (σ : St) (H : Hp) (O : Addr → Prop) (xs : List V) (us : List Value) (ds : List D) (r : Val) (Q : VK), Inv X pins σ H s → Vals xs us → RdAll X.K H O xs ds → g ds = some r →
    (∀ v H' O', NP X.K H O r v H' O' → Q v H') → wpAny (model X.prog X.w) X.A (call v us) (EP X pins σ Q) X.xe s) : CallR X v (rDs X g) :=
  fun pins s σ H xs us Q I r ⟨O, ds, rr, hx, hg, q⟩ => h pins s σ H O xs us ds rr Q I r hx hg q
theorem RdAll.one {K : PySem.W.Frag} {xs : List V} {d : D} (h : RdAll K H O xs [d]) : ∃ x, xs = [x] ∧ Rd1 K H O x d := by
  cases h with
  | cons h t => cases t; exact ⟨_, rfl, h⟩
theorem RdAll.two {K : PySem.W.Frag} {xs : List V} {d d' : D} (h : RdAll K H O xs [d, d']) : ∃ x y, xs = [x, y] ∧ Rd1 K H O x d ∧ Rd1 K H O y d' := by
  cases h with
  | cons h t =>
    cases t with
    | cons h' t => cases t; exact ⟨_, _, rfl, h, h'⟩
def gLen : List D → Option Val
  | [.lst ds] => some (.sh (.int ds.length))
  | [.tup ds] => some (.sh (.int ds.length))
  | _ => none
theorem cd_len : CallR X (.builtin "len") (rDs X gLen) := clD fun pins s σ H O xs us ds r Q I rv hx e q => by
  unfold gLen at e
  split at e
  · cases e
    obtain ⟨x, rfl, h⟩ := hx.one
    obtain ⟨a, ys, rfl, h1, r1⟩ := h.lst
    refine call_len_seq pins s σ H _ us Q I rv ⟨a, ys, rfl, .inl h1, ?_⟩
    rw [r1.length]
    exact q _ _ _ (NP.flat (.int _))
  · cases e
    obtain ⟨x, rfl, h⟩ := hx.one
    obtain ⟨a, ys, rfl, h1, r1⟩ := h.tup
    refine call_len_seq pins s σ H _ us Q I rv ⟨a, ys, rfl, .inr (SqT.of h1), ?_⟩
    rw [r1.length]
    exact q _ _ _ (NP.flat (.int _))
  · cases e
def asB : D → Option Bool
  | .bl b => some b
  | _ => none
def asBs : List D → Option (List Bool)
  | [] => some []
  | d :: ds => (asB d).bind fun b => (asBs ds).map fun bs => b :: bs
theorem asBs_eq : ∀ {ds : List D} {bs : List Bool}, asBs ds = some bs → ds = bs.map .bl
  | [], _, h => by cases h; rfl
  | d :: ds, bs, h => by
    unfold asBs at h
    obtain ⟨i, h1, h⟩ := Option.bind_eq_some_iff.mp h
    obtain ⟨js, h2, rfl⟩ := Option.map_eq_some_iff.mp h
    have e : d = .bl i := by
      unfold asB at h1
      split at h1
      · cases h1; rfl
      · cases h1
    rw [e, asBs_eq h2]; rfl
theorem asBs_bl : ∀ bs : List Bool, asBs (bs.map .bl) = some bs
  | [] => rfl
  | b :: bs => by simp [asBs, asB, asBs_bl bs]
theorem RpAll.bls {K : PySem.W.Frag} : ∀ {vs : List V} {bs : List Bool}, RpAll K H O vs (bs.map D.bl) → vs = bs.map V.bl
  | [], [], _ => rfl
  | [], _ :: _, h => nomatch h
  | _ :: _, [], h => nomatch h
  | v :: vs, b :: bs, h => by
    cases h with
    | cons h1 h2 =>
      cases h1
      rw [RpAll.bls h2]; rfl
def gAny : List D → Option Val
  | [.lst ds] => (asBs ds).map fun bs => .sh (.bl (bs.any id))
  | _ => none
def gAll : List D → Option Val
  | [.lst ds] => (asBs ds).map fun bs => .sh (.bl (bs.all id))
  | _ => none
theorem cd_any (hc : X.calm = true) : CallR X (.builtin "any") (rDs X gAny) := clD fun pins s σ H O xs us ds r Q I rv hx e q => by
  unfold gAny at e
  split at e
  · obtain ⟨bs, e1, rfl⟩ := Option.map_eq_some_iff.mp e
    obtain ⟨x, rfl, h⟩ := hx.one
    obtain ⟨a, ys, rfl, h1, r1⟩ := h.lst
    rw [asBs_eq e1] at r1
    have := r1.bls
    subst this
    exact cr_any hc pins s σ H _ us Q I rv ⟨a, bs, rfl, h1, q _ _ _ (NP.flat (.bl _))⟩
  · cases e
theorem cd_all (hc : X.calm = true) : CallR X (.builtin "all") (rDs X gAll) := clD fun pins s σ H O xs us ds r Q I rv hx e q => by
  unfold gAll at e
  split at e
  · obtain ⟨bs, e1, rfl⟩ := Option.map_eq_some_iff.mp e
    obtain ⟨x, rfl, h⟩ := hx.one
    obtain ⟨a, ys, rfl, h1, r1⟩ := h.lst
    rw [asBs_eq e1] at r1
    have := r1.bls
    subst this
    exact cr_all hc pins s σ H _ us Q I rv ⟨a, bs, rfl, h1, q _ _ _ (NP.flat (.bl _))⟩
  · cases e
def maxI : List Int → Option Int
  | [] => none
  | x :: xs => some (xs.foldl (fun a b => if b > a then b else a) x)
def minI : List Int → Option Int
  | [] => none
  | x :: xs => some (xs.foldl (fun a b => if b < a then b else a) x)
theorem maxF : ∀ (xs : List Int) (x : Int), (xs.foldl (fun a b => if b > a then b else a) x = x ∨ xs.foldl (fun a b => if b > a then b else a) x ∈ xs) ∧ x ≤ xs.foldl (fun a b => if b > a then b else a) x ∧ ∀ y ∈ xs, y ≤ xs.foldl (fun a b => if b > a then b else a) x
  | [], x => ⟨.inl rfl, Int.le_refl _, fun y h => by cases h⟩
  | z :: xs, x => by
    rw [List.foldl_cons]
    obtain ⟨h1, h2, h3⟩ := maxF xs (if z > x then z else x)
    refine ⟨?_, ?_, fun y hy => ?_⟩
    · rcases h1 with h1 | h1
      · rw [h1]
        by_cases c : z > x
        · rw [if_pos c]; exact .inr List.mem_cons_self
        · rw [if_neg c]; exact .inl rfl
      · exact .inr (List.mem_cons_of_mem _ h1)
    · refine Int.le_trans ?_ h2
      split <;> omega
    · rcases List.mem_cons.mp hy with e | hy
      · subst e
        refine Int.le_trans ?_ h2
        split <;> omega
      · exact h3 y hy
theorem minF : ∀ (xs : List Int) (x : Int), (xs.foldl (fun a b => if b < a then b else a) x = x ∨ xs.foldl (fun a b => if b < a then b else a) x ∈ xs) ∧ xs.foldl (fun a b => if b < a then b else a) x ≤ x ∧ ∀ y ∈ xs, xs.foldl (fun a b => if b < a then b else a) x ≤ y
  | [], x => ⟨.inl rfl, Int.le_refl _, fun y h => by cases h⟩
  | z :: xs, x => by
    rw [List.foldl_cons]
    obtain ⟨h1, h2, h3⟩ := minF xs (if z < x then z else x)
    refine ⟨?_, ?_, fun y hy => ?_⟩
    · rcases h1 with h1 | h1
      · rw [h1]
        by_cases c : z < x
        · rw [if_pos c]; exact .inr List.mem_cons_self
        · rw [if_neg c]; exact .inl rfl
      · exact .inr (List.mem_cons_of_mem _ h1)
    · refine Int.le_trans h2 ?_
      split <;> omega
    · rcases List.mem_cons.mp hy with e | hy
      · subst e
        refine Int.le_trans h2 ?_
        split <;> omega
      · exact h3 y hy
theorem maxI_ok {ns : List Int} {m k : Int} (h : maxI ns = some m) (h1 : k ∈ ns) (h2 : ∀ y ∈ ns, y ≤ k) : k = m := by
  cases ns with
  | nil => cases h
  | cons x xs =>
    cases h
    obtain ⟨g1, g2, g3⟩ := maxF xs x
    refine Int.le_antisymm ?_ ?_
    · rcases List.mem_cons.mp h1 with e | h1
      · rw [e]; exact g2
      · exact g3 k h1
    · rcases g1 with g1 | g1
      · rw [g1]; exact h2 x List.mem_cons_self
      · exact h2 _ (List.mem_cons_of_mem _ g1)
theorem minI_ok {ns : List Int} {m k : Int} (h : minI ns = some m) (h1 : k ∈ ns) (h2 : ∀ y ∈ ns, k ≤ y) : k = m := by
  cases ns with
  | nil => cases h
  | cons x xs =>
    cases h
    obtain ⟨g1, g2, g3⟩ := minF xs x
    refine Int.le_antisymm ?_ ?_
    · rcases g1 with g1 | g1
      · rw [g1]; exact h2 x List.mem_cons_self
      · exact h2 _ (List.mem_cons_of_mem _ g1)
    · rcases List.mem_cons.mp h1 with e | h1
      · rw [e]; exact g2
      · exact g3 k h1
def gMax : List D → Option Val
  | [.lst ds] => (asIs ds).bind fun ns => (maxI ns).map fun m => .sh (.int m)
  | [.int i, .int j] => some (.sh (.int (if j > i then j else i)))
  | _ => none
def gMin : List D → Option Val
  | [.lst ds] => (asIs ds).bind fun ns => (minI ns).map fun m => .sh (.int m)
  | [.int i, .int j] => some (.sh (.int (if j < i then j else i)))
  | _ => none
theorem cd_max (hc : X.calm = true) : CallR X (.builtin "max") (rDs X gMax) := clD fun pins s σ H O xs us ds r Q I rv hx e q => by
  unfold gMax at e
  split at e
  · obtain ⟨ns, e1, e⟩ := Option.bind_eq_some_iff.mp e
    obtain ⟨m, e2, rfl⟩ := Option.map_eq_some_iff.mp e
    obtain ⟨x, rfl, h⟩ := hx.one
    obtain ⟨a, ys, rfl, h1, r1⟩ := h.lst
    rw [asIs_eq e1] at r1
    have := RpAll.ints.mp r1
    subst this
    refine cr_max hc pins s σ H _ us Q I rv ⟨a, ns, rfl, h1, ?_, fun k k1 k2 => ?_⟩
    · cases ns with
      | nil => cases e2
      | cons _ _ => simp
    · rw [maxI_ok e2 k1 k2]
      exact q _ _ _ (NP.flat (.int _))
  · cases e
    obtain ⟨x, y, rfl, h, h'⟩ := hx.two
    exact call_max2 hc pins s σ H _ us Q I rv ⟨_, _, by rw [h.int, h'.int], q _ _ _ (NP.flat (.int _))⟩
  · cases e
theorem cd_min (hc : X.calm = true) : CallR X (.builtin "min") (rDs X gMin) := clD fun pins s σ H O xs us ds r Q I rv hx e q => by
  unfold gMin at e
  split at e
  · obtain ⟨ns, e1, e⟩ := Option.bind_eq_some_iff.mp e
    obtain ⟨m, e2, rfl⟩ := Option.map_eq_some_iff.mp e
    obtain ⟨x, rfl, h⟩ := hx.one
    obtain ⟨a, ys, rfl, h1, r1⟩ := h.lst
    rw [asIs_eq e1] at r1
    have := RpAll.ints.mp r1
    subst this
    refine cr_min hc pins s σ H _ us Q I rv ⟨a, ns, rfl, h1, ?_, fun k k1 k2 => ?_⟩
    · cases ns with
      | nil => cases e2
      | cons _ _ => simp
    · rw [minI_ok e2 k1 k2]
      exact q _ _ _ (NP.flat (.int _))
  · cases e
    obtain ⟨x, y, rfl, h, h'⟩ := hx.two
    exact call_min2 hc pins s σ H _ us Q I rv ⟨_, _, by rw [h.int, h'.int], q _ _ _ (NP.flat (.int _))⟩
  · cases e
def gSum : List D → Option Val
  | [.lst ds] => (asIs ds).map fun ns => .sh (.int ns.sum)
  | _ => none
theorem cd_sum (hc : X.calm = true) : CallR X (.builtin "sum") (rDs X gSum) := clD fun pins s σ H O xs us ds r Q I rv hx e q => by
  unfold gSum at e
  split at e
  · obtain ⟨ns, e1, rfl⟩ := Option.map_eq_some_iff.mp e
    obtain ⟨x, rfl, h⟩ := hx.one
    obtain ⟨a, ys, rfl, h1, r1⟩ := h.lst
    rw [asIs_eq e1] at r1
    have := RpAll.ints.mp r1
    subst this
    exact cr_sum hc pins s σ H _ us Q I rv ⟨a, ns, rfl, h1, q _ _ _ (NP.flat (.int _))⟩
  · cases e
def gInt : List D → Option Val
  | [.int i] => some (.sh (.int i))
  | [.bl k] => some (.sh (.int (if k then 1 else 0)))
  | _ => none
theorem cd_int : CallR X (.type "int") (rDs X gInt) := clD fun pins s σ H O xs us ds r Q I rv hx e q => by
  unfold gInt at e
  split at e
  · cases e
    obtain ⟨x, rfl, h⟩ := hx.one
    exact call_int1 pins s σ H _ us Q I rv (.inl ⟨_, by rw [h.int], q _ _ _ (NP.flat (.int _))⟩)
  · cases e
    obtain ⟨x, rfl, h⟩ := hx.one
    exact call_int1 pins s σ H _ us Q I rv (.inr ⟨_, by rw [h.bl], q _ _ _ (NP.flat (.int _))⟩)
  · cases e
def gStr : List D → Option Val
  | [.int i] => if i.natAbs.log2 < 1920 then some (.sh (.str (toString i))) else none
  | _ => none
theorem cd_str : CallR X (.type "str") (rDs X gStr) := clD fun pins s σ H O xs us ds r Q I rv hx e q => by
  unfold gStr at e
  split at e
  · rename_i i
    by_cases c : i.natAbs.log2 < 1920
    · rw [if_pos c] at e
      cases e
      obtain ⟨x, rfl, h⟩ := hx.one
      exact call_str_int pins s σ H _ us Q I rv ⟨_, by rw [h.int], c, q _ _ _ (NP.flat (.str _))⟩
    · rw [if_neg c] at e; cases e
  · cases e
def gTuple : List D → Option Val
  | [.lst ds] => some (.sh (.tup ds))
  | [.tup ds] => some (.sh (.tup ds))
  | _ => none
theorem cd_tuple : CallR X (.type "tuple") (rDs X gTuple) := clD fun pins s σ H O xs us ds r Q I rv hx e q => by
  unfold gTuple at e
  split at e
  · cases e
    obtain ⟨x, rfl, h⟩ := hx.one
    obtain ⟨a, ys, rfl, h1, r1⟩ := h.lst
    exact call_tuple_of pins s σ H _ us Q I rv ⟨a, ys, rfl, .inl ⟨h1, fun l hl => q _ _ _ (NP.newT hl r1)⟩⟩
  · cases e
    obtain ⟨x, rfl, h⟩ := hx.one
    obtain ⟨a, ys, rfl, h1, r1⟩ := h.tup
    exact call_tuple_of pins s σ H _ us Q I rv ⟨a, ys, rfl, .inr ⟨SqT.of h1, q _ _ _ (NP.flat (rp_tup h1 r1))⟩⟩
  · cases e
def gList : List D → Option Val
  | [.lst ds] => some (.ow (.lst ds))
  | [.tup ds] => some (.ow (.lst ds))
  | [.dt kvs] => some (.ow (.lst ((kvs.map (·.1)).map dTI)))
  | _ => none
theorem keys_rp {K : PySem.W.Frag} : ∀ {kvs : List (List Int × V)} {bs : List Addr}, IsKeys H (kvs.map kT) bs → RpAll K H O (bs.map V.ref) ((kvs.map (·.1)).map dTI)
  | [], _, h => by cases h; exact .nil
  | kv :: kvs, _, h => by
    cases h with
    | cons h t =>
      refine .cons (.tup h ?_) (keys_rp t)
      have e : (kT kv).1.map kV = kv.1.map V.int := by
        show (kv.1.map Sum.inl : List Key).map kV = _
        rw [List.map_map]; rfl
      rw [e]
      exact RpAll.ints.mpr rfl
theorem cd_list (hc : X.calm = true) : CallR X (.type "list") (rDs X gList) := clD fun pins s σ H O xs us ds r Q I rv hx e q => by
  unfold gList at e
  split at e
  · cases e
    obtain ⟨x, rfl, h⟩ := hx.one
    obtain ⟨a, ys, rfl, h1, r1⟩ := h.lst
    exact call_list_of pins s σ H _ us Q I rv ⟨a, ys, rfl, .inl h1, fun l hl => q _ _ _ (NP.newL hl r1)⟩
  · cases e
    obtain ⟨x, rfl, h⟩ := hx.one
    obtain ⟨a, ys, rfl, h1, r1⟩ := h.tup
    exact call_list_of pins s σ H _ us Q I rv ⟨a, ys, rfl, .inr (SqT.of h1), fun l hl => q _ _ _ (NP.newL hl r1)⟩
  · cases e
    obtain ⟨x, rfl, h⟩ := hx.one
    obtain ⟨a, rfl, h1⟩ := h.dt
    exact call_list_dT hc pins s σ H _ us Q I rv ⟨a, _, rfl, h1, fun p bs hp hk => q _ _ _ (NP.newL hp (keys_rp hk))⟩
  · cases e

/-! ### isinstance -/
def tyD : D → Option String
  | .non => some "NoneType"
  | .bl _ => some "bool"
  | .int _ => some "int"
  | .str _ => some "str"
  | .tup _ => some "tuple"
  | .lst _ => some "list"
  | _ => none
theorem ty_of {K : PySem.W.Frag} {v : V} {d : D} {t : String} (h : Rd1 K H O v d) (e : tyD d = some t) : TyX K H v (.type t) := by
  cases d with
  | non => cases e; rw [h.non]; exact .base .non
  | bl b => cases e; rw [h.bl]; exact .base (.bl b)
  | int i => cases e; rw [h.int]; exact .base (.int i)
  | str x => cases e; rw [h.str]; exact .base (.str x)
  | tup ds => cases e; obtain ⟨a, xs, rfl, h1, _⟩ := h.tup; exact .base (.tup h1)
  | lst ds =>
    cases e
    obtain ⟨a, xs, rfl, h1, _⟩ := h.lst
    rcases h1 with (h1 | ⟨o, h1⟩) | ⟨o, its, n, h1, h2, _⟩
    · exact .base (.lst h1)
    · exact .base (.frz h1)
    · exact .kList h1 h2
  | dk _ => cases e
  | dt _ => cases e
def xIsi (B : String → Option Bool) (f : Ev Val) : Ev Val := fun ρ => bnd (f ρ) fun x ρ1 => (rd ρ1 x).bind fun d => (tyD d).bind fun t => (B t).map fun k => .ok (.sh (.bl k)) ρ1
theorem isi_ok {B : String → Option Bool} {r : V → Hp → VK → Prop} (h : tV X W (xIsi B f) σ H Q) (hr : ∀ v H O d t k, Rd1 X.K H O v d → tyD d = some t → B t = some k → (∀ H', (∀ b o, H b = some o → H' b = some o) → Q (.bl k) H') → r v H Q) : tV X W f σ H fun v H1 => r v H1 Q := by
  obtain ⟨ρ, O, E, p⟩ := h
  refine tV.mono (fun v H1 ⟨x, ρ1, O1, E1, V1, p1⟩ => ?_) (tV_bndV E p)
  cases q1 : rd ρ1 x with
  | none => rw [q1] at p1; exact p1.elim
  | some d =>
    rw [q1] at p1
    have p1 : Post X W ρ1 σ H1 O1 Q ((tyD d).bind fun t => (B t).map fun k => .ok (.sh (.bl k)) ρ1) := p1
    cases q2 : tyD d with
    | none => rw [q2] at p1; exact p1.elim
    | some t =>
      rw [q2] at p1
      have p1 : Post X W ρ1 σ H1 O1 Q ((B t).map fun k => .ok (.sh (.bl k)) ρ1) := p1
      cases q3 : B t with
      | none => rw [q3] at p1; exact p1.elim
      | some k =>
        rw [q3] at p1
        refine hr v H1 O1 d t k (V1.rd E1 q1) q2 q3 fun H' kp => p1 _ _ _ (NP.post (H' := H') (O' := O1) E1 ⟨kp, fun _ h => .inl h, fun _ h => h, .bl k⟩)
/-- isinstance(x, T) -/
theorem ve_isi {T : String} {xT : Str} {p pT : Pos} (he : VE X W e f) (hg : Gl X "isinstance") (hm : X.mg "isinstance" = none) (hgT : Gl X xT) (hmT : X.mg xT = none) (hvT : bootBuiltins xT = some (.type T)) (hn : xT ≠ "__name__" := by decide) (hdb : (xT == ("__debug__" : Str)) = false := by decide)
    (hv : bootBuiltins "isinstance" = some (.builtin "isinstance") := by with_unfolding_all rfl)
    (hs : starEach (e :: [.Name xT pT]) X.env = (false, eval e X.env) :: starEach [.Name xT pT] X.env := by rfl) (hs2 : starEach [.Name xT pT] X.env = (false, eval (.Name xT pT) X.env) :: starEach [] X.env := by rfl) (hpl : (backTo pos (starEach [.Name xT pT] X.env)).any (·.1) = false := by rfl) :
    VE X W (.Call (.Name "isinstance" p) [e, .Name xT pT] [] pos) (xIsi (fun t => kitB t T) f) :=
  ⟨PE.imp (pe_callB call_isi hg hm hv (pa_cons he.pe (pa_cons (pe_bltn hgT hmT hvT (show RelV (.ty T) (.type T) from rfl) hn hdb) pa_nil hs2) hs) (by decide) (by decide) hs hpl) fun σ H Q h =>
    isi_ok (r := fun v H Q => tC (.ty T) σ H fun y H2 => rIsi X.K [v, y] H2 Q) h fun v H O d t k r1 r2 r3 q => ⟨v, .ty T, .type t, .type T, k, rfl, .ty T, ty_of r1 r2, kit_ty r3, q H fun _ _ h => h⟩⟩
/-- isinstance(x, (T, U)) -/
def kitB2 (T U : String) (t : String) : Option Bool := (kitB t T).bind fun a => if a = true then some true else kitB t U
theorem ve_isi2 {T U : String} {xT xU : Str} {p pT pU pt : Pos} {k : Nat} (he : VE X W e f) (hg : Gl X "isinstance") (hm : X.mg "isinstance" = none) (hgT : Gl X xT) (hmT : X.mg xT = none) (hvT : bootBuiltins xT = some (.type T)) (hgU : Gl X xU) (hmU : X.mg xU = none) (hvU : bootBuiltins xU = some (.type U))
    (hn : xT ≠ "__name__" := by decide) (hdb : (xT == ("__debug__" : Str)) = false := by decide) (hnU : xU ≠ "__name__" := by decide) (hdbU : (xU == ("__debug__" : Str)) = false := by decide)
    (hv : bootBuiltins "isinstance" = some (.builtin "isinstance") := by with_unfolding_all rfl)
    (hs : starEach (e :: [.Tuple [.Name xT pT, .Name xU pU] k pt]) X.env = (false, eval e X.env) :: starEach [.Tuple [.Name xT pT, .Name xU pU] k pt] X.env := by rfl) (hs2 : starEach [.Tuple [.Name xT pT, .Name xU pU] k pt] X.env = (false, eval (.Tuple [.Name xT pT, .Name xU pU] k pt) X.env) :: starEach [] X.env := by rfl)
    (hs3 : starEach [.Name xT pT, .Name xU pU] X.env = (false, eval (.Name xT pT) X.env) :: starEach [.Name xU pU] X.env := by rfl) (hs4 : starEach [.Name xU pU] X.env = (false, eval (.Name xU pU) X.env) :: starEach [] X.env := by rfl)
    (hpl : (backTo pos (starEach [.Tuple [.Name xT pT, .Name xU pU] k pt] X.env)).any (·.1) = false := by rfl) :
    VE X W (.Call (.Name "isinstance" p) [e, .Tuple [.Name xT pT, .Name xU pU] k pt] [] pos) (xIsi (kitB2 T U) f) :=
  ⟨PE.imp (pe_callB call_isiT hg hm hv (pa_cons he.pe (pa_cons (pe_tup (pa_cons (pe_bltn hgT hmT hvT (show RelV (.ty T) (.type T) from rfl) hn hdb) (pa_cons (pe_bltn hgU hmU hvU (show RelV (.ty U) (.type U) from rfl) hnU hdbU) pa_nil hs4) hs3)) pa_nil hs2) hs) (by decide) (by decide) hs hpl) fun σ H Q h =>
    isi_ok (r := fun v H Q => tTup (tCons (tC (.ty T)) (tCons (tC (.ty U)) tNil)) σ H fun y H2 => rIsiT X.K [v, y] H2 Q) h fun v H O d t k r1 r2 r3 q => by
      refine ⟨by show 2 ≤ sizeLine; decide, fun p hp => ?_⟩
      have kp := upd_kp (o := .tup [.ty T, .ty U]) hp
      refine ⟨v, p, [.ty T, .ty U], .type t, [.type T, .type U], k, rfl, upd_same, .cons (.ty T) (.cons (.ty U) .nil), ?_, ?_, q _ kp⟩
      · have r1' : Rd1 X.K (upd H p (.tup [.ty T, .ty U])) O v d := by
          rcases r1 with r1 | ⟨a, e, n, r1⟩
          · exact .inl (r1.ke (ke_upd hp))
          · exact .inr ⟨a, e, n, r1.ke (ke_upd hp) fun o h _ => kp a o h⟩
        exact ty_of r1' r2
      · unfold kitB2 at r3
        obtain ⟨b1, e1, e2⟩ := Option.bind_eq_some_iff.mp r3
        refine kitAny_cons (kit_ty e1) (fun z => ?_) fun z => ?_
        · rw [if_neg (by rw [z]; simp)] at e2
          refine kitAny_cons (kit_ty e2) (fun z => ?_) fun z => z
          rw [z]; exact kitAny_nil
        · rw [if_pos z] at e2
          cases e2
          rfl⟩
end
end Lf

set_option Elab.async false
set_option linter.all false
set_option maxRecDepth 100000
/-! Lf, part L: dicts, what changes an owned object, sorted(set(..)). -/
namespace Lf
open PySem PySem.Spec L2

/-! ### scalars in dicts -/
def vD : V → Option D
  | .non => some .non
  | .bl b => some (.bl b)
  | .int i => some (.int i)
  | .str x => some (.str x)
  | _ => none
def dV : D → Option V
  | .non => some .non
  | .bl b => some (.bl b)
  | .int i => some (.int i)
  | .str x => some (.str x)
  | _ => none
theorem vD_rp {K : PySem.W.Frag} {H : Hp} {O : Addr → Prop} {v : V} {d : D} (h : vD v = some d) : Rp K H O v d := by
  cases v <;> first | (cases h; constructor) | cases h
theorem dV_eq {K : PySem.W.Frag} {H : Hp} {O : Addr → Prop} {v w : V} {d : D} (h : Rd1 K H O v d) (e : dV d = some w) : v = w := by
  cases d with
  | non => cases e; exact h.non
  | bl b => cases e; exact h.bl
  | int i => cases e; exact h.int
  | str x => cases e; exact h.str
  | _ => cases e
theorem valV_kI : ∀ (kvs : List (Int × V)) (i : Int), valV (kvs.map kI) (Sum.inl i : Key) = valV kvs i
  | [], _ => rfl
  | kv :: kvs, i => by
    by_cases e : kv.1 = i
    · rw [List.map_cons, valV_pos (show (kI kv).1 = Sum.inl i by unfold kI; rw [e]), valV_pos e]; rfl
    · rw [List.map_cons, valV_neg (show ¬ (kI kv).1 = Sum.inl i from fun z => e (Sum.inl.inj z)), valV_neg e, valV_kI kvs i]
theorem map_inl_inj : ∀ {a b : List Int}, (a.map Sum.inl : List Key) = b.map Sum.inl → a = b
  | [], [], _ => rfl
  | [], _ :: _, h => by cases h
  | _ :: _, [], h => by cases h
  | x :: xs, y :: ys, h => by
    rw [List.map_cons, List.map_cons] at h
    injection h with h1 h2
    rw [Sum.inl.inj h1, map_inl_inj h2]
theorem valV_kT : ∀ (kvs : List (List Int × V)) (i : List Int), valV (kvs.map kT) (i.map Sum.inl : List Key) = valV kvs i
  | [], _ => rfl
  | kv :: kvs, i => by
    by_cases e : kv.1 = i
    · rw [List.map_cons, valV_pos (show (kT kv).1 = i.map Sum.inl by unfold kT; rw [e]), valV_pos e]; rfl
    · rw [List.map_cons, valV_neg (show ¬ (kT kv).1 = i.map Sum.inl from fun z => e (map_inl_inj z)), valV_neg e, valV_kT kvs i]
theorem any_valV {κ : Type} [DecidableEq κ] (kvs : List (κ × V)) (k : κ) : (kvs.any fun kv => decide (kv.1 = k)) = (valV kvs k).isSome := valV_any k kvs
theorem putK_kI (kvs : List (Int × V)) (i : Int) (v : V) : putK (kvs.map kI) (Sum.inl i : Key) v = (putK kvs i v).map kI := by
  unfold putK
  rw [any_valV, any_valV, valV_kI]
  by_cases e : (valV kvs i).isSome = true
  · rw [if_pos e, if_pos e, List.map_map, List.map_map]
    refine List.map_congr_left fun kv _ => ?_
    show (if (kI kv).1 = Sum.inl i then ((kI kv).1, v) else kI kv) = kI (if kv.1 = i then (kv.1, v) else kv)
    by_cases q : kv.1 = i
    · rw [if_pos q, if_pos (show (kI kv).1 = Sum.inl i by unfold kI; rw [q])]; rfl
    · rw [if_neg q, if_neg (show ¬ (kI kv).1 = Sum.inl i from fun z => q (Sum.inl.inj z))]
  · rw [if_neg e, if_neg e, List.map_append]; rfl
theorem putK_kT (kvs : List (List Int × V)) (i : List Int) (v : V) : putK (kvs.map kT) (i.map Sum.inl : List Key) v = (putK kvs i v).map kT := by
  unfold putK
  rw [any_valV, any_valV, valV_kT]
  by_cases e : (valV kvs i).isSome = true
  · rw [if_pos e, if_pos e, List.map_map, List.map_map]
    refine List.map_congr_left fun kv _ => ?_
    show (if (kT kv).1 = i.map Sum.inl then ((kT kv).1, v) else kT kv) = kT (if kv.1 = i then (kv.1, v) else kv)
    by_cases q : kv.1 = i
    · rw [if_pos q, if_pos (show (kT kv).1 = i.map Sum.inl by unfold kT; rw [q])]; rfl
    · rw [if_neg q, if_neg (show ¬ (kT kv).1 = i.map Sum.inl from fun z => q (map_inl_inj z))]
  · rw [if_neg e, if_neg e, List.map_append]; rfl
/-- what a dict holds at a key -/
def dictAt : D → D → Option (Option V)
  | .dk kvs, .int i => some (valV kvs i)
  | .dt kvs, .tup ds => (asIs ds).map fun ns => valV kvs ns
  | _, _ => none
theorem key_tup {ns : List Int} : (ns.map Sum.inl : List Key).map kV = ns.map V.int := by rw [List.map_map]; rfl
theorem dget_d {K : PySem.W.Frag} {H : Hp} {O : Addr → Prop} {v y : V} {d k : D} {o : Option V} (h : Rd1 K H O v d) (hk : Rd1 K H O y k) (e : dictAt d k = some o) : ∃ a, v = .ref a ∧ DGet H a y o := by
  unfold dictAt at e
  split at e
  · rename_i kvs i
    cases e
    obtain ⟨a, rfl, hd⟩ := h.dk
    exact ⟨a, rfl, .inl ⟨_, Sum.inl i, hd, hk.int, (valV_kI kvs i).symm⟩⟩
  · rename_i kvs ds
    obtain ⟨ns, e1, rfl⟩ := Option.map_eq_some_iff.mp e
    obtain ⟨a, rfl, hd⟩ := h.dt
    rw [asIs_eq e1] at hk
    obtain ⟨b, xs, rfl, hb, rb⟩ := hk.tup
    rw [RpAll.ints.mp rb] at hb
    exact ⟨a, rfl, .inr ⟨_, ns.map Sum.inl, b, hd, rfl, by rw [key_tup]; exact hb, (valV_kT kvs ns).symm⟩⟩
  · cases e
def isDict : D → Bool
  | .dk _ => true
  | .dt _ => true
  | _ => false
theorem isD_d {K : PySem.W.Frag} {H : Hp} {O : Addr → Prop} {v : V} {d : D} (h : Rd1 K H O v d) (e : isDict d = true) : ∃ a, v = .ref a ∧ IsD H a := by
  cases d with
  | dk kvs =>
    obtain ⟨a, rfl, hd⟩ := h.dk
    exact ⟨a, rfl, .inl ⟨_, hd⟩⟩
  | dt kvs =>
    obtain ⟨a, rfl, hd⟩ := h.dt
    exact ⟨a, rfl, .inr ⟨_, hd⟩⟩
  | _ => cases e
section
variable {X : Cx} {W : WX} {pos p2 : Pos} {a b c e o : Expr} {es : List Expr} {f fa fb fc : Ev Val} {ρ ρ1 ρ' : Env} {σ : St} {H H1 : Hp} {O O1 : Addr → Prop}
def gDget (d k : D) : Option Val := (dictAt d k).bind fun o => o.bind fun v => (vD v).map .sh
def gDin (k d : D) : Option Val := (dictAt d k).map fun o => .sh (.bl o.isSome)
def gDnin (k d : D) : Option Val := (dictAt d k).map fun o => .sh (.bl (!o.isSome))
theorem tOp_imp {r r' : R2} (hr : ∀ x y H Q, r x y H Q → r' x y H Q) {Q : VK} (h : tOp r (tV X W fa) (tV X W fb) σ H Q) : tOp r' (tV X W fa) (tV X W fb) σ H Q :=
  tV.mono (fun x H1 h1 => tV.mono (fun y H2 h2 => hr x y H2 Q h2) h1) h
theorem tV_nx {k : Val → Env → Option (R Val)} {Q : VK} (E : RE X.K ρ σ H O) (h : Post X W ρ σ H O Q (bnd (f ρ) k)) :
    tV X W f σ H fun v H1 => ∃ r ρ1 O1, EPost X.K ρ σ H O r ρ1 v H1 O1 ∧ Post X W ρ1 σ H1 O1 Q (k r ρ1) := by
  refine ⟨ρ, O, E, ?_⟩
  cases q : f ρ with
  | none => rw [q] at h; exact h
  | some m =>
    rw [q] at h
    cases m with
    | er c => exact h
    | ok r ρ1 => exact fun v H1 O1 P => ⟨r, ρ1, O1, P, Post.step P.fr h⟩
theorem ve_dget (hu : X.A.units + 1 < cLine) (ha : VE X W a fa) (hb : VE X W b fb) (hs : NoSl b := by exact fun _ _ => rfl) : VE X W (.Subscript a b pos) (xBin gDget fa fb) :=
  ⟨PE.imp (pe_dget hu ha.pe hb.pe hs) fun σ H Q h => tOp_imp (r' := fun x y H Q => ∃ a v, x = .ref a ∧ DGet H a y (some v) ∧ Q v H) (fun x y H Q ⟨O, dx, dy, r, hx, hy, hg, q⟩ => by
    obtain ⟨o, e1, e⟩ := Option.bind_eq_some_iff.mp hg
    obtain ⟨v, rfl, e⟩ := Option.bind_eq_some_iff.mp e
    obtain ⟨d, e2, rfl⟩ := Option.map_eq_some_iff.mp e
    obtain ⟨a, rfl, g⟩ := dget_d hx hy e1
    exact ⟨a, v, rfl, g, q _ _ _ (NP.flat (vD_rp e2))⟩) (bin_ok h)⟩
theorem din_r (neg : Bool) {x y : V} {H : Hp} {Q : VK} (h : rD2 X (if neg then gDnin else gDin) x y H Q) : ∃ a o, y = .ref a ∧ DGet H a x o ∧ Q (.bl (if neg then !o.isSome else o.isSome)) H := by
  obtain ⟨O, dx, dy, r, hx, hy, hg, q⟩ := h
  cases neg with
  | true =>
    obtain ⟨o, e1, rfl⟩ := Option.map_eq_some_iff.mp (show gDnin dx dy = some r from hg)
    obtain ⟨a, rfl, g⟩ := dget_d hy hx e1
    exact ⟨a, o, rfl, g, q _ _ _ (NP.flat (.bl _))⟩
  | false =>
    obtain ⟨o, e1, rfl⟩ := Option.map_eq_some_iff.mp (show gDin dx dy = some r from hg)
    obtain ⟨a, rfl, g⟩ := dget_d hy hx e1
    exact ⟨a, o, rfl, g, q _ _ _ (NP.flat (.bl _))⟩
theorem din_ok {Q : VK} (h : tV X W (xBin gDin fa fb) σ H Q) : tDIn (tV X W fa) (tV X W fb) σ H Q := tOp_imp (r' := fun x y H Q => ∃ a o, y = .ref a ∧ DGet H a x o ∧ Q (.bl o.isSome) H) (r := rD2 X gDin) (fun x y H Q h => din_r (X := X) false h) (bin_ok h)
theorem dnin_ok {Q : VK} (h : tV X W (xBin gDnin fa fb) σ H Q) : tDNotIn (tV X W fa) (tV X W fb) σ H Q := tOp_imp (r' := fun x y H Q => ∃ a o, y = .ref a ∧ DGet H a x o ∧ Q (.bl (!o.isSome)) H) (r := rD2 X gDnin) (fun x y H Q h => din_r (X := X) true h) (bin_ok h)
theorem ve_din (hu : X.A.units + 1 < cLine) (ha : VE X W a fa) (hb : VE X W b fb) (hm : behindInMarks .In b = false := by rfl) : VE X W (.Compare a [.In] [b] pos) (xBin gDin fa fb) := ⟨PE.imp (L2.pe_cmp (pc_din hu ha.pe hb.pe) hm) fun _ _ _ => din_ok⟩
theorem ve_dnin (hu : X.A.units + 1 < cLine) (ha : VE X W a fa) (hb : VE X W b fb) (hm : behindInMarks .NotIn b = false := by rfl) : VE X W (.Compare a [.NotIn] [b] pos) (xBin gDnin fa fb) := ⟨PE.imp (L2.pe_cmp (pc_dnotin hu ha.pe hb.pe) hm) fun _ _ _ => dnin_ok⟩
theorem vt_din (hu : X.A.units + 1 < cLine) (ha : VE X W a fa) (hb : VE X W b fb) (hm : behindInMarks .In b = false := by rfl) : VT X W (.Compare a [.In] [b] pos) (xB (xBin gDin fa fb)) := vt_of (L2.pt_cmp (pc_din hu ha.pe hb.pe) hm) fun _ _ _ => din_ok
theorem vt_dnin (hu : X.A.units + 1 < cLine) (ha : VE X W a fa) (hb : VE X W b fb) (hm : behindInMarks .NotIn b = false := by rfl) : VT X W (.Compare a [.NotIn] [b] pos) (xB (xBin gDnin fa fb)) := vt_of (L2.pt_cmp (pc_dnotin hu ha.pe hb.pe) hm) fun _ _ _ => dnin_ok
/-- d.get(k, x) -/
def fin3 (g : D → D → D → Option Val) (x y z : Val) (ρ : Env) : Option (R Val) := (rd ρ x).bind fun dx => (rd ρ y).bind fun dy => (rd ρ z).bind fun dz => (g dx dy dz).map fun r => .ok r ρ
def gGet2 (d k z : D) : Option Val := (dictAt d k).bind fun o => (dV z).bind fun w => (vD (o.getD w)).map .sh
def xGet2 (fa fb fc : Ev Val) : Ev Val := fun ρ => bnd (fa ρ) fun x ρ1 => match rd ρ1 x with
  | some d => if isDict d = true then bnd (fb ρ1) fun y ρ2 => bnd (fc ρ2) fun z ρ3 => fin3 gGet2 x y z ρ3 else none
  | none => none
theorem ve_get2 {apos cpos : Pos} (hu : X.A.units + 1 < cLine) (ha : VE X W a fa) (hb : VE X W b fb) (hc : VE X W c fc) (m : M2 X a "get" apos b c cpos := by exact ⟨rfl, rfl, rfl, rfl⟩) : VE X W (.Call (.Attribute a "get" apos) [b, c] [] cpos) (xGet2 fa fb fc) := ⟨PE.imp (pe_dget2 hu ha.pe hb.pe hc.pe m) fun σ H Q ⟨ρ, O, E, p⟩ => by
  refine tV.mono (fun v H1 ⟨x, ρ1, O1, E1, V1, p1⟩ => ?_) (tV_bndV E p)
  cases q0 : rd ρ1 x with
  | none => rw [q0] at p1; exact p1.elim
  | some d =>
    rw [q0] at p1
    have p1 : Post X W ρ1 σ H1 O1 Q (if isDict d = true then bnd (fb ρ1) fun y ρ2 => bnd (fc ρ2) fun z ρ3 => fin3 gGet2 x y z ρ3 else none) := p1
    by_cases hd : isDict d = true
    · rw [if_pos hd] at p1
      obtain ⟨a, rfl, h1⟩ := isD_d (V1.rd E1 q0) hd
      refine ⟨a, rfl, h1, ?_⟩
      refine tV.mono (fun u H2 ⟨y, ρ2, O2, P2, p2⟩ => ?_) (tV_nx E1 p1)
      refine tV.mono (fun w H3 ⟨z, ρ3, O3, P3, p3⟩ => ?_) (tV_nx P2.re p2)
      have Vx := (V1.later E1 P2.fr).later P2.re P3.fr
      have Vy := P2.vr.later P2.re P3.fr
      unfold fin3 at p3
      cases q1 : rd ρ3 x with
      | none => rw [q1] at p3; exact p3.elim
      | some dx =>
        rw [q1] at p3
        have p3 : Post X W ρ3 σ H3 O3 Q ((rd ρ3 y).bind fun dy => (rd ρ3 z).bind fun dz => (gGet2 dx dy dz).map fun r => .ok r ρ3) := p3
        cases q2 : rd ρ3 y with
        | none => rw [q2] at p3; exact p3.elim
        | some dy =>
          rw [q2] at p3
          have p3 : Post X W ρ3 σ H3 O3 Q ((rd ρ3 z).bind fun dz => (gGet2 dx dy dz).map fun r => .ok r ρ3) := p3
          cases q3 : rd ρ3 z with
          | none => rw [q3] at p3; exact p3.elim
          | some dz =>
            rw [q3] at p3
            have p3 : Post X W ρ3 σ H3 O3 Q ((gGet2 dx dy dz).map fun r => .ok r ρ3) := p3
            cases q4 : gGet2 dx dy dz with
            | none => rw [q4] at p3; exact p3.elim
            | some r =>
              rw [q4] at p3
              obtain ⟨oo, e1, e⟩ := Option.bind_eq_some_iff.mp q4
              obtain ⟨w', e2, e⟩ := Option.bind_eq_some_iff.mp e
              obtain ⟨d', e3, rfl⟩ := Option.map_eq_some_iff.mp e
              obtain ⟨a', ea, g⟩ := dget_d (Vx.rd P3.re q1) (Vy.rd P3.re q2) e1
              cases ea
              have ew := dV_eq (P3.vr.rd P3.re q3) e2
              subst ew
              exact ⟨oo, g, p3 _ _ _ ((NP.flat (vD_rp e3)).post P3.re)⟩
    · rw [if_neg hd] at p1; exact p1.elim⟩
end
end Lf

set_option Elab.async false
set_option linter.all false
set_option maxRecDepth 100000
/-! Lf, part M: what changes an owned object. -/
namespace Lf
open PySem PySem.Spec L2

section
variable {X : Cx} {W : WX} {pos pos' p2 : Pos} {a b c e o : Expr} {es : List Expr} {f fo fa fb fc : Ev Val} {ρ ρ1 ρ' : Env} {σ : St} {H H1 : Hp} {O O1 : Addr → Prop} {De : Ends}
theorem tV_nxS {k : Val → Env → Option (R Fl)} (E : RE X.K ρ σ H O) (h : PostS X W ρ σ H O De (bnd (f ρ) k)) :
    tV X W f σ H fun v H1 => ∃ r ρ1 O1, EPost X.K ρ σ H O r ρ1 v H1 O1 ∧ PostS X W ρ1 σ H1 O1 De (k r ρ1) :=
  tV.mono (fun v H1 ⟨r, ρ1, O1, P, p⟩ => ⟨r, ρ1, O1, P, p.step P.fr⟩) (tV_st E h)
/-- the slot of an owned object -/
def ownAt (ρ : Env) : Val → Option (Nat × D)
  | .bw j => match ρ[j]? with
    | some (Slot.ow d) => some (j, d)
    | _ => none
  | _ => none
theorem ownAt_ok {K : PySem.W.Frag} {x : Val} {v : V} {j : Nat} {d : D} (E : RE K ρ σ H O) (hx : VR K ρ σ H O x v) (h : ownAt ρ x = some (j, d)) : x = .bw j ∧ ρ[j]? = some (Slot.ow d) ∧ ∃ a, v = .ref a ∧ σ[j]? = some (some (V.ref a)) ∧ O a ∧ Ob K H O a d := by
  cases x with
  | sh d => cases h
  | ow d => cases h
  | bw i =>
    have h : (match ρ[i]? with
      | some (Slot.ow d) => some (i, d)
      | _ => none) = some (j, d) := h
    split at h
    · rename_i q
      have hx : σ[i]? = some (some v) := hx
      cases h
      obtain ⟨a, e1, oa, ob⟩ := E.ow _ _ q
      rw [hx] at e1; cases e1
      exact ⟨rfl, q, a, rfl, hx, oa, ob⟩
    · cases h

/-! ### o.m(e, ..) -/
def xMutS (k : D → Bool) (g : D → List D → Option (D × D)) (fo : Ev Val) (f : Ev (List D)) : Ev Val := fun ρ => bnd (fo ρ) fun x ρ1 => match ownAt ρ1 x with
  | some (_, d) => if k d = true then bnd (f ρ1) fun ds ρ2 => match ownAt ρ2 x with
    | some (j, d0) => (g d0 ds).map fun p => .ok (.sh p.2) (ρ2.set j (.ow p.1))
    | none => none else none
  | none => none
def MutOk (X : Cx) (r : V → List V → Hp → VK → Prop) (g : D → List D → Option (D × D)) : Prop := ∀ H O a d0 vs ds d1 d Q, Ob X.K H O a d0 → O a → RpAll X.K H O vs ds → g d0 ds = some (d1, d) →
  (∀ v H', (∀ b o, H b = some o → b ≠ a → H' b = some o) → (∃ o, H' a = some o) → Ob X.K H' O a d1 → Rp X.K H' O v d → Q v H') → r (.ref a) vs H Q
def KindOk (X : Cx) (T : String) (k : D → Bool) : Prop := ∀ H O a d, k d = true → Ob X.K H O a d → tyV X.K T (.ref a) H
theorem ve_mutS {g : D → List D → Option (D × D)} {k : D → Bool} {fs : Ev (List D)} {name : Str} {T id : String} {apos cpos : Pos} {r : V → List V → Hp → VK → Prop} (pa : PlainAttrs T) (slot : PySem.Slot T name id) (hty : typeOf (.builtin id) = pure (.type "method_descriptor")) (hm : MtR X id r) (hk : KindOk X T k) (hr : MutOk X r g)
    (ho : VE X W o fo) (ha : VA X W (e :: es) fs)
    (hbase : attributeBase o name X.env (eval o X.env) = eval o X.env := by rfl)
    (hfew : ((backTo cpos (starEach (e :: es) X.env)).all (fun x => !x.1) && (backToKw cpos (keywordEach [] X.env)).all (fun x => x.1.isSome)
      && decide ((e :: es).length + ([] : List Keyword).length + (if ([] : List Keyword).isEmpty then 0 else 1) < 30)) = true := by rfl)
    (hline : (apos.endLine == cpos.line) = true := by rfl) (hs : starEach (e :: es) X.env = (false, eval e X.env) :: starEach es X.env := by rfl) (hplain : (backTo cpos (starEach es X.env)).any (·.1) = false := by rfl) :
    VE X W (.Call (.Attribute o name apos) (e :: es) [] cpos) (xMutS k g fo fs) := ⟨PE.imp (pe_bm pa slot hty hm ho.pe ha.pa hbase hfew hline hs hplain) fun σ H Q ⟨ρ, O, E, p⟩ => by
  refine tV.mono (fun v H1 ⟨x, ρ1, O1, P1, p1⟩ => ?_) (tV_nx E p)
  cases q1 : ownAt ρ1 x with
  | none => rw [q1] at p1; exact p1.elim
  | some z =>
    obtain ⟨j, d⟩ := z
    rw [q1] at p1
    obtain ⟨ex, h1, a, ev, h2, oa, ob⟩ := ownAt_ok P1.re P1.vr q1
    subst ex ev
    have p1 : Post X W ρ1 σ H1 O1 Q (if k d = true then bnd (fs ρ1) fun ds ρ2 => match ownAt ρ2 (.bw j) with
      | some (j, d0) => (g d0 ds).map fun p => .ok (.sh p.2) (ρ2.set j (.ow p.1))
      | none => none else none) := p1
    by_cases hd : k d = true
    · rw [if_pos hd] at p1
      refine ⟨hk H1 O1 a d hd ob, ρ1, O1, P1.re, ?_⟩
      cases q2 : fs ρ1 with
      | none => rw [q2] at p1; exact p1
      | some m =>
        rw [q2] at p1
        cases m with
        | er c => exact p1
        | ok ds ρ2 =>
          intro vs H2 O2 E2 F2 R2
          have p2 := Post.step F2 p1
          have V2 : VR X.K ρ2 σ H2 O2 (.bw j) (.ref a) := h2
          have p2 : Post X W ρ2 σ H2 O2 Q (match ownAt ρ2 (.bw j) with
            | some (j, d0) => (g d0 ds).map fun p => .ok (.sh p.2) (ρ2.set j (.ow p.1))
            | none => none) := p2
          cases q3 : ownAt ρ2 (.bw j) with
          | none => rw [q3] at p2; exact p2.elim
          | some z =>
            obtain ⟨j2, d0⟩ := z
            rw [q3] at p2
            obtain ⟨ex, h3, a2, ev, h4, oa2, ob2⟩ := ownAt_ok E2 V2 q3
            cases ex
            cases ev
            have p2 : Post X W ρ2 σ H2 O2 Q ((g d0 ds).map fun p => .ok (.sh p.2) (ρ2.set j (.ow p.1))) := p2
            cases q4 : g d0 ds with
            | none => rw [q4] at p2; exact p2.elim
            | some z =>
              obtain ⟨d1, dr⟩ := z
              rw [q4] at p2
              refine hr H2 O2 a d0 vs ds d1 dr Q ob2 oa2 R2 q4 fun v H' kp al ob' rv => ?_
              obtain ⟨E3, F3⟩ := RE.mut E2 h3 h4 kp al (fun b z => .inl z) (fun b z => z) ob'
              exact p2 v H' O2 ⟨E3, F3, rv, fun _ _ e => nomatch e⟩
    · rw [if_neg hd] at p1; exact p1.elim⟩
def isL : D → Bool
  | .lst _ => true
  | _ => false
theorem kind_list : KindOk X "list" isL := fun H O a d h ob => by
  cases d with
  | lst ds =>
    obtain ⟨xs, h1, _⟩ := ob
    exact .inl ⟨rfl, xs, .inl (.inl h1)⟩
  | _ => cases h
theorem kind_dict : KindOk X "dict" isDict := fun H O a d h ob => by
  cases d with
  | dk kvs => exact .inr (.inr (.inl ⟨rfl, .inl ⟨_, ob⟩⟩))
  | dt kvs => exact .inr (.inr (.inl ⟨rfl, .inr ⟨_, ob⟩⟩))
  | _ => cases h
theorem ke_at {a : Addr} {u : HO} (oa : O a) (nt : ∀ xs, H a ≠ some (.tup xs)) : Ke H (upd H a u) O O := ⟨fun b o h _ n => by
  by_cases e : b = a
  · subst e
    rcases n with n | ⟨xs, n⟩
    · exact absurd oa n
    · rw [n] at h; exact absurd h (nt xs)
  · rw [upd_ne e]; exact h, fun b z => .inl z⟩
theorem upd_kpN {a : Addr} {u : HO} : ∀ b o, H b = some o → b ≠ a → upd H a u b = some o := fun b o h n => by rw [upd_ne n]; exact h
theorem lst_nt {a : Addr} {xs : List V} (h : H a = some (.lst xs)) : ∀ ys, H a ≠ some (.tup ys) := fun ys e => by rw [h] at e; cases e
def mAppend : D → List D → Option (D × D)
  | .lst ds, [d] => if ds.length < sizeLine then some (.lst (ds ++ [d]), .non) else none
  | _, _ => none
theorem mo_append : MutOk X rAppend mAppend := fun H O a d0 vs ds d1 d Q ob oa r e q => by
  unfold mAppend at e
  split at e
  · rename_i xs d'
    by_cases c : xs.length < sizeLine
    · rw [if_pos c] at e
      cases e
      obtain ⟨ys, h1, r1⟩ := ob
      cases r with
      | @cons v' _ _ _ h t =>
        cases t
        have k := ke_at (u := .lst (ys ++ [v'])) oa (lst_nt h1)
        exact ⟨a, ys, v', rfl, rfl, h1, by rw [r1.length]; exact c, q _ _ upd_kpN ⟨_, upd_same⟩ ⟨_, upd_same, (r1.append (.cons h .nil)).ke k⟩ .non⟩
    · rw [if_neg c] at e; cases e
  · cases e
theorem ve_append {fs : Ev (List D)} {apos cpos : Pos} (ho : VE X W o fo) (ha : VA X W [e] fs)
    (hbase : attributeBase o "append" X.env (eval o X.env) = eval o X.env := by rfl)
    (hfew : ((backTo cpos (starEach [e] X.env)).all (fun x => !x.1) && (backToKw cpos (keywordEach [] X.env)).all (fun x => x.1.isSome)
      && decide (([e] : List Expr).length + ([] : List Keyword).length + (if ([] : List Keyword).isEmpty then 0 else 1) < 30)) = true := by rfl)
    (hline : (apos.endLine == cpos.line) = true := by rfl) (hs : starEach [e] X.env = (false, eval e X.env) :: starEach [] X.env := by rfl) (hplain : (backTo cpos (starEach [] X.env)).any (·.1) = false := by rfl) :
    VE X W (.Call (.Attribute o "append" apos) [e] [] cpos) (xMutS isL mAppend fo fs) := ve_mutS PySem.F.plainAttrs_list PySem.F.slot_list_append PySem.F.type_list_append mt_append kind_list mo_append ho ha hbase hfew hline hs hplain

/-! ### o.m(e), e looked at alone -/
def nbw (j : Nat) : Val → Bool
  | .bw i => decide (i ≠ j)
  | .sh d => !isL d
  | .ow _ => true
def xMutB (k : D → Bool) (g : D → List D → Option (D × D)) (fo : Ev Val) (f : Ev (List Val)) : Ev Val := fun ρ => bnd (fo ρ) fun x ρ1 => match ownAt ρ1 x with
  | some (_, d) => if k d = true then bnd (f ρ1) fun rs ρ2 => match ownAt ρ2 x with
    | some (j, d0) => if rs.all (nbw j) = true then (rdAll ρ2 rs).bind fun ds => (g d0 ds).map fun p => .ok (.sh p.2) (ρ2.set j (.ow p.1)) else none
    | none => none else none
  | none => none
def MutOkB (X : Cx) (r : V → List V → Hp → VK → Prop) (g : D → List D → Option (D × D)) : Prop := ∀ H O a d0 vs ds d1 d Q, Ob X.K H O a d0 → O a → RdAll X.K H O vs ds → (∀ v ∈ vs, v ≠ .ref a) → g d0 ds = some (d1, d) →
  (∀ v H', (∀ b o, H b = some o → b ≠ a → H' b = some o) → (∃ o, H' a = some o) → Ob X.K H' O a d1 → Rp X.K H' O v d → Q v H') → r (.ref a) vs H Q
theorem ob_ref {K : PySem.W.Frag} {d : D} {a : Addr} (hO : O a) (hnt : ∀ xs, H a ≠ some (.tup xs)) (hK : isL d = false) : ¬ Rp K H O (.ref a) d := fun h => by
  cases h with
  | tup h _ => exact hnt _ h
  | lst _ n _ => exact n hO
  | lstK k _ => cases hK
  | dk _ n => exact n hO
  | dt _ n => exact n hO
theorem nbw_ne {K : PySem.W.Frag} {x : Val} {v : V} {j : Nat} {a : Addr} {d : D} (E : RE K ρ σ H O) (hj : ρ[j]? = some (Slot.ow d)) (ha : σ[j]? = some (some (V.ref a))) (hx : VR K ρ σ H O x v) (hn : nbw j x = true) (hr : ∃ d, rd ρ x = some d) : v ≠ .ref a := fun e => by
  subst e
  have me : OL ρ σ j a := ⟨⟨_, .inl hj⟩, ha⟩
  obtain ⟨o1, _, nt⟩ := E.ol me
  cases x with
  | sh d => exact ob_ref o1 nt (by simpa [nbw] using hn) hx
  | ow d =>
    obtain ⟨b, e, _, nw, _⟩ := hx
    cases e
    exact nw ⟨j, _, hj, ha⟩
  | bw i =>
    have hn : i ≠ j := by unfold nbw at hn; exact of_decide_eq_true hn
    obtain ⟨d', hr⟩ := hr
    have hr : (match ρ[i]? with
      | some (Slot.ow d) => some d
      | some (Slot.lk d) => some d
      | _ => none) = some d' := hr
    split at hr
    · rename_i q
      exact hn (E.inj i j a ⟨⟨_, .inl q⟩, hx⟩ me)
    · rename_i q
      exact hn (E.inj i j a ⟨⟨_, .inr q⟩, hx⟩ me)
    · cases hr
theorem nbw_all {K : PySem.W.Frag} {j : Nat} {a : Addr} {d : D} (E : RE K ρ σ H O) (hj : ρ[j]? = some (Slot.ow d)) (ha : σ[j]? = some (some (V.ref a))) : ∀ {rs : List Val} {vs : List V} {ds : List D}, VRAll K ρ σ H O rs vs → rs.all (nbw j) = true → rdAll ρ rs = some ds → ∀ v ∈ vs, v ≠ .ref a
  | [], _, _, .nil, _, _, v, h => by cases h
  | r :: rs, _, ds, .cons h t, n, e, v, hv => by
    rw [List.all_cons, Bool.and_eq_true] at n
    have e : ((Lf.rd ρ r).bind fun d => (rdAll ρ rs).map fun ds => d :: ds) = some ds := e
    obtain ⟨d', e1, e⟩ := Option.bind_eq_some_iff.mp e
    obtain ⟨ds', e2, rfl⟩ := Option.map_eq_some_iff.mp e
    rcases List.mem_cons.mp hv with z | z
    · subst z; exact nbw_ne E hj ha h n.1 ⟨d', e1⟩
    · exact nbw_all E hj ha t n.2 e2 v z
theorem ve_mutB {g : D → List D → Option (D × D)} {k : D → Bool} {fs : Ev (List Val)} {name : Str} {T id : String} {apos cpos : Pos} {r : V → List V → Hp → VK → Prop} (pa : PlainAttrs T) (slot : PySem.Slot T name id) (hty : typeOf (.builtin id) = pure (.type "method_descriptor")) (hm : MtR X id r) (hk : KindOk X T k) (hr : MutOkB X r g)
    (ho : VE X W o fo) (ha : VB X W (e :: es) fs)
    (hbase : attributeBase o name X.env (eval o X.env) = eval o X.env := by rfl)
    (hfew : ((backTo cpos (starEach (e :: es) X.env)).all (fun x => !x.1) && (backToKw cpos (keywordEach [] X.env)).all (fun x => x.1.isSome)
      && decide ((e :: es).length + ([] : List Keyword).length + (if ([] : List Keyword).isEmpty then 0 else 1) < 30)) = true := by rfl)
    (hline : (apos.endLine == cpos.line) = true := by rfl) (hs : starEach (e :: es) X.env = (false, eval e X.env) :: starEach es X.env := by rfl) (hplain : (backTo cpos (starEach es X.env)).any (·.1) = false := by rfl) :
    VE X W (.Call (.Attribute o name apos) (e :: es) [] cpos) (xMutB k g fo fs) := ⟨PE.imp (pe_bm pa slot hty hm ho.pe ha.pa hbase hfew hline hs hplain) fun σ H Q ⟨ρ, O, E, p⟩ => by
  refine tV.mono (fun v H1 ⟨x, ρ1, O1, P1, p1⟩ => ?_) (tV_nx E p)
  cases q1 : ownAt ρ1 x with
  | none => rw [q1] at p1; exact p1.elim
  | some z =>
    obtain ⟨j, d⟩ := z
    rw [q1] at p1
    obtain ⟨ex, h1, a, ev, h2, oa, ob⟩ := ownAt_ok P1.re P1.vr q1
    subst ex ev
    have p1 : Post X W ρ1 σ H1 O1 Q (if k d = true then bnd (fs ρ1) fun rs ρ2 => match ownAt ρ2 (.bw j) with
      | some (j, d0) => if rs.all (nbw j) = true then (rdAll ρ2 rs).bind fun ds => (g d0 ds).map fun p => .ok (.sh p.2) (ρ2.set j (.ow p.1)) else none
      | none => none else none) := p1
    by_cases hd : k d = true
    · rw [if_pos hd] at p1
      refine ⟨hk H1 O1 a d hd ob, ρ1, O1, P1.re, ?_⟩
      cases q2 : fs ρ1 with
      | none => rw [q2] at p1; exact p1
      | some m =>
        rw [q2] at p1
        cases m with
        | er c => exact p1
        | ok rs ρ2 =>
          intro vs H2 O2 E2 F2 R2
          have p2 := Post.step F2 p1
          have V2 : VR X.K ρ2 σ H2 O2 (.bw j) (.ref a) := h2
          have p2 : Post X W ρ2 σ H2 O2 Q (match ownAt ρ2 (.bw j) with
            | some (j, d0) => if rs.all (nbw j) = true then (rdAll ρ2 rs).bind fun ds => (g d0 ds).map fun p => .ok (.sh p.2) (ρ2.set j (.ow p.1)) else none
            | none => none) := p2
          cases q3 : ownAt ρ2 (.bw j) with
          | none => rw [q3] at p2; exact p2.elim
          | some z =>
            obtain ⟨j2, d0⟩ := z
            rw [q3] at p2
            obtain ⟨ex, h3, a2, ev, h4, oa2, ob2⟩ := ownAt_ok E2 V2 q3
            cases ex
            cases ev
            have p2 : Post X W ρ2 σ H2 O2 Q (if rs.all (nbw j) = true then (rdAll ρ2 rs).bind fun ds => (g d0 ds).map fun p => .ok (.sh p.2) (ρ2.set j (.ow p.1)) else none) := p2
            by_cases hn : rs.all (nbw j) = true
            · rw [if_pos hn] at p2
              cases q5 : rdAll ρ2 rs with
              | none => rw [q5] at p2; exact p2.elim
              | some ds =>
                rw [q5] at p2
                have p2 : Post X W ρ2 σ H2 O2 Q ((g d0 ds).map fun p => .ok (.sh p.2) (ρ2.set j (.ow p.1))) := p2
                cases q4 : g d0 ds with
                | none => rw [q4] at p2; exact p2.elim
                | some z =>
                  obtain ⟨d1, dr⟩ := z
                  rw [q4] at p2
                  refine hr H2 O2 a d0 vs ds d1 dr Q ob2 oa2 (R2.rd E2 q5) (nbw_all E2 h3 h4 R2 hn q5) q4 fun v H' kp al ob' rv => ?_
                  obtain ⟨E3, F3⟩ := RE.mut E2 h3 h4 kp al (fun b z => .inl z) (fun b z => z) ob'
                  exact p2 v H' O2 ⟨E3, F3, rv, fun _ _ e => nomatch e⟩
            · rw [if_neg hn] at p2; exact p2.elim
    · rw [if_neg hd] at p1; exact p1.elim⟩
/-- found.update(more), keys tuples -/
def mergeT {κ : Type} [DecidableEq κ] (kvs more : List (κ × V)) : List (κ × V) := more.foldl (fun acc kv => putK acc kv.1 kv.2) kvs
theorem mergeT_kT : ∀ (more kvs : List (List Int × V)), mergeT (kvs.map kT) (more.map kT) = (mergeT kvs more).map kT
  | [], _ => rfl
  | kv :: more, kvs => by
    show mergeT (putK (kvs.map kT) (kv.1.map Sum.inl) kv.2) (more.map kT) = _
    rw [putK_kT, mergeT_kT more]; rfl
theorem mergeT_len {κ : Type} [DecidableEq κ] : ∀ (more kvs : List (κ × V)), (mergeT kvs more).length ≤ kvs.length + more.length
  | [], kvs => by show kvs.length ≤ kvs.length + 0; omega
  | p :: r, kvs => by
    have h1 := mergeT_len r (putK kvs p.1 p.2)
    have h2 := length_putK kvs p.1 p.2
    show (mergeT (putK kvs p.1 p.2) r).length ≤ _
    rw [List.length_cons]; omega
theorem KT.merge {H : Hp} : ∀ {more : List (List Key × V)} {ys : List (List Key × Addr × Value)}, KT H more ys → ∀ {kvs : List (List Key × V)} {xs : List (List Key × Addr × Value)}, KT H kvs xs → KT H (mergeT kvs more) (storedAllH xs ys)
  | _, _, .nil, _, _, h => h
  | p :: more, q :: ys, .cons h t, kvs, xs, r => by
    show KT H (mergeT (putK kvs p.1 p.2) more) (storedAllH (storedH xs q.1 q.2.1 q.2.2) ys)
    refine KT.merge t ?_
    rw [← h.1]
    exact r.put p.1 (b := q.2.1) h.2.1 h.2.2
def rUpdT : V → List V → Hp → VK → Prop := fun x xs H Q => ∃ (a b : Addr) (kvs more : List (List Key × V)), x = .ref a ∧ xs = [.ref b] ∧ a ≠ b ∧ H a = some (.dT kvs) ∧ Rd H b (.dT more) ∧ kvs ≠ [] ∧ kvs.length + more.length ≤ sizeLine ∧ Q .non (upd H a (.dT (mergeT kvs more)))
theorem mt_updT (hu : X.A.units + 64 < cLine) : MtR X "dict.update" rUpdT := by
  intro pins s σ H x xs v us Q I rx rxs ⟨a, b, kvs, more, e1, e2, hab, ha, hb, hne, hz, q⟩
  subst e1 e2
  cases rx
  obtain ⟨u, rfl, ru⟩ := rxs.one
  cases ru
  obtain ⟨z, hd, ks, rel, dd⟩ := dt_of I.hok ha
  obtain ⟨z2, hd2, ks2, rel2, dd2⟩ := dt_rd I.hok hb
  have l1 := Paired.length rel
  have l2 := Paired.length rel2
  refine call_update_dictH (tupleKind_room_in1 (by omega)) hab hd2 dd dd2 (.inl fun e => hne ?_) (by omega) fun h' dd' dd2' hs => ?_
  · subst e
    exact List.length_eq_zero_iff.mp l1
  · obtain ⟨o, es, ep, hq, h2, h3, h4, _, h5⟩ := dd'
    refine ⟨.non, _, d_write (ob := .dT (mergeT kvs more)) (t' := s.toks) I (by rw [ha]; exact True.intro) hs ⟨o, hq⟩ ⟨?_, hd, _, KT.keeps (KT.merge rel2 rel) (fun c ys ec => ?_), o, es, ep, hq, h2, h3, h4, h5⟩, rfl, q⟩
    · exact Nat.le_trans (mergeT_len more kvs) hz
    · rw [upd_ne (ne_of ec ha (fun z => nomatch z))]
      exact ec
def mUpd : D → List D → Option (D × D)
  | .dt kvs, [.dt more] => if kvs ≠ [] ∧ kvs.length + more.length ≤ sizeLine then some (.dt (mergeT kvs more), .non) else none
  | _, _ => none
theorem mo_upd : MutOkB X rUpdT mUpd := fun H O a d0 vs ds d1 d Q ob oa r n e q => by
  unfold mUpd at e
  split at e
  · rename_i kvs more
    by_cases c : kvs ≠ [] ∧ kvs.length + more.length ≤ sizeLine
    · rw [if_pos c] at e
      cases e
      have ob : H a = some (.dT (kvs.map kT)) := ob
      obtain ⟨x, rfl, h⟩ := r.one
      obtain ⟨b, rfl, hb⟩ := h.dt
      refine ⟨a, b, _, _, rfl, rfl, fun e => n _ List.mem_cons_self (by rw [e]), ob, hb, fun e => c.1 (List.map_eq_nil_iff.mp e), by rw [List.length_map, List.length_map]; exact c.2, ?_⟩
      rw [mergeT_kT]
      exact q _ _ upd_kpN ⟨_, upd_same⟩ upd_same .non
    · rw [if_neg c] at e; cases e
  · cases e
theorem ve_upd {fs : Ev (List Val)} {apos cpos : Pos} (hu : X.A.units + 64 < cLine) (ho : VE X W o fo) (ha : VB X W [e] fs)
    (hbase : attributeBase o "update" X.env (eval o X.env) = eval o X.env := by rfl)
    (hfew : ((backTo cpos (starEach [e] X.env)).all (fun x => !x.1) && (backToKw cpos (keywordEach [] X.env)).all (fun x => x.1.isSome)
      && decide (([e] : List Expr).length + ([] : List Keyword).length + (if ([] : List Keyword).isEmpty then 0 else 1) < 30)) = true := by rfl)
    (hline : (apos.endLine == cpos.line) = true := by rfl) (hs : starEach [e] X.env = (false, eval e X.env) :: starEach [] X.env := by rfl) (hplain : (backTo cpos (starEach [] X.env)).any (·.1) = false := by rfl) :
    VE X W (.Call (.Attribute o "update" apos) [e] [] cpos) (xMutB isDict mUpd fo fs) := ve_mutB PySem.F.plainAttrs_dict PySem.F.slot_dict_update PySem.F.type_dict_update (mt_updT hu) kind_dict mo_upd ho ha hbase hfew hline hs hplain
end
end Lf

set_option Elab.async false
set_option linter.all false
set_option maxRecDepth 100000
/-! Lf, part N: stores into dicts and lists, displays of one pair, dict != {}, bit_length. -/
namespace Lf
open PySem PySem.Spec L2

section
variable {X : Cx} {W : WX} {pos pos' p2 : Pos} {a b c e o i value : Expr} {es : List Expr} {f fo fi fk fv fa fb fc : Ev Val} {ρ ρ1 ρ' : Env} {σ : St} {H H1 : Hp} {O O1 : Addr → Prop} {De : Ends}
def dputD : D → D → V → Option D
  | .dk kvs, .int i, w => if kvs.length < sizeLine then some (.dk (putK kvs i w)) else none
  | .dt kvs, .tup ds, w => (asIs ds).bind fun ns => if kvs.length < sizeLine then some (.dt (putK kvs ns w)) else none
  | _, _, _ => none
def sDput (fo fk fv : Ev Val) : Ev Fl := fun ρ => bnd (fv ρ) fun r ρ1 => bnd (fo ρ1) fun x ρ2 => bnd (fk ρ2) fun y ρ3 => (rd ρ3 r).bind fun dv => (dV dv).bind fun w => (rd ρ3 y).bind fun dk => (ownAt ρ3 x).bind fun z => (dputD z.2 dk w).map fun d1 => .ok .nx (ρ3.set z.1 (.ow d1))
theorem dput_ok {a : Addr} {y : V} {w : V} {d0 dk d1 : D} (oa : O a) (ob : Ob X.K H O a d0) (hy : Rd1 X.K H O y dk) (e : dputD d0 dk w = some d1) : ∃ H', DPut H a y w H' ∧ (∀ b o, H b = some o → b ≠ a → H' b = some o) ∧ (∃ o, H' a = some o) ∧ Ob X.K H' O a d1 := by
  unfold dputD at e
  split at e
  · rename_i kvs i
    by_cases c : kvs.length < sizeLine
    · rw [if_pos c] at e
      cases e
      have ob : H a = some (.dK (kvs.map kI)) := ob
      refine ⟨_, .inl ⟨_, Sum.inl i, ob, hy.int, by rw [List.length_map]; exact c, rfl⟩, upd_kpN, ⟨_, upd_same⟩, ?_⟩
      show upd H a _ a = _
      rw [upd_same, putK_kI]
    · rw [if_neg c] at e; cases e
  · rename_i kvs ds
    obtain ⟨ns, e1, e⟩ := Option.bind_eq_some_iff.mp e
    by_cases c : kvs.length < sizeLine
    · rw [if_pos c] at e
      cases e
      have ob : H a = some (.dT (kvs.map kT)) := ob
      rw [asIs_eq e1] at hy
      obtain ⟨b, xs, rfl, hb, rb⟩ := hy.tup
      rw [RpAll.ints.mp rb] at hb
      refine ⟨_, .inr ⟨_, ns.map Sum.inl, b, ob, rfl, by rw [key_tup]; exact hb, by rw [List.length_map]; exact c, rfl⟩, upd_kpN, ⟨_, upd_same⟩, ?_⟩
      show upd H a _ a = _
      rw [upd_same, putK_kT]
    · rw [if_neg c] at e; cases e
  · cases e
theorem vs_dput (hu : X.A.units + 1 < cLine) (ho : VE X W o fo) (hk : VE X W i fk) (hv : VE X W value fv) (hs : swapsWith value (some (.Subscript o i pos')) pos.line X.env = pure false := by rfl) :
    VS X W (.Assign [.Subscript o i pos'] value pos) (sDput fo fk fv) := ⟨PS.imp (ps_dput hu ho.pe hk.pe hv.pe hs) fun De σ H ⟨ρ, O, E, p⟩ => by
  refine tV.mono (fun v H1 ⟨r, ρ1, O1, P1, p1⟩ => ?_) (tV_nxS E p)
  refine tV.mono (fun xv H2 ⟨x, ρ2, O2, P2, p2⟩ => ?_) (tV_nxS P1.re p1)
  refine tV.mono (fun yv H3 ⟨y, ρ3, O3, P3, p3⟩ => ?_) (tV_nxS P2.re p2)
  have Vr := (P1.vr.later P1.re P2.fr).later P2.re P3.fr
  have Vx := P2.vr.later P2.re P3.fr
  cases q1 : rd ρ3 r with
  | none => rw [q1] at p3; exact p3.elim
  | some dv =>
    rw [q1] at p3
    have p3 : PostS X W ρ3 σ H3 O3 De ((dV dv).bind fun w => (rd ρ3 y).bind fun dk => (ownAt ρ3 x).bind fun z => (dputD z.2 dk w).map fun d1 => .ok .nx (ρ3.set z.1 (.ow d1))) := p3
    cases q2 : dV dv with
    | none => rw [q2] at p3; exact p3.elim
    | some w =>
      rw [q2] at p3
      have p3 : PostS X W ρ3 σ H3 O3 De ((rd ρ3 y).bind fun dk => (ownAt ρ3 x).bind fun z => (dputD z.2 dk w).map fun d1 => .ok .nx (ρ3.set z.1 (.ow d1))) := p3
      cases q3 : rd ρ3 y with
      | none => rw [q3] at p3; exact p3.elim
      | some dk =>
        rw [q3] at p3
        have p3 : PostS X W ρ3 σ H3 O3 De ((ownAt ρ3 x).bind fun z => (dputD z.2 dk w).map fun d1 => .ok .nx (ρ3.set z.1 (.ow d1))) := p3
        cases q4 : ownAt ρ3 x with
        | none => rw [q4] at p3; exact p3.elim
        | some z =>
          obtain ⟨j, d0⟩ := z
          rw [q4] at p3
          have p3 : PostS X W ρ3 σ H3 O3 De ((dputD d0 dk w).map fun d1 => .ok .nx (ρ3.set j (.ow d1))) := p3
          cases q5 : dputD d0 dk w with
          | none => rw [q5] at p3; exact p3.elim
          | some d1 =>
            rw [q5] at p3
            obtain ⟨_, h1, a, ea, h2, oa, ob⟩ := ownAt_ok P3.re Vx q4
            have ew := dV_eq (Vr.rd P3.re q1) q2
            obtain ⟨H4, g, kp, al, ob'⟩ := dput_ok oa ob (P3.vr.rd P3.re q3) q5
            obtain ⟨E4, F4⟩ := RE.mut P3.re h1 h2 kp al (fun b z => .inl z) (fun b z => z) ob'
            exact ⟨a, H4, ea, by rw [ew]; exact g, p3 σ H4 O3 E4 F4⟩⟩
def sSetIx (fo fi fv : Ev Val) : Ev Fl := fun ρ => bnd (xSh fv ρ) fun r ρ1 => (match r with
  | .sh d => bnd (fo ρ1) fun x ρ2 => bnd (fi ρ2) fun y ρ3 => match rd ρ3 y, ownAt ρ3 x with
    | some (.int i), some (j, .lst ds) => (ixN ds.length i).map fun k => .ok .nx (ρ3.set j (.ow (.lst (ds.set k d))))
    | _, _ => none
  | _ => none)
theorem vs_setIx (ho : VE X W o fo) (hi : VE X W i fi) (hv : VE X W value fv) (hs : swapsWithSole [.Subscript o i pos'] value pos.line X.env = pure false := by rfl) (hw : swappedStores [.Subscript o i pos'] value X.env = pure none := by rfl)
    (h1 : (assignEach [.Subscript o i pos'] X.env).map (·.2) = [assign (.Subscript o i pos') X.env] := by rfl)
    (ha : ∀ v, assign (.Subscript o i pos') X.env v = (do
      let ov ← holding [v] (eval o X.env)
      let iv ← holding [v, ov] (eval i X.env)
      standAt pos'
      holding [v, ov, iv] (setItem ov iv v)
      release [v, ov, iv] []) := by intro _; rfl) : VS X W (.Assign [.Subscript o i pos'] value pos) (sSetIx fo fi fv) := ⟨PS.imp (ps_asg (ve_sh hv).pe (pg_sub ho.pe hi.pe set_list ha) hs hw h1) fun De σ H ⟨ρ, O, E, p⟩ => by
  refine tV.mono (fun v H1 ⟨r, ρ1, O1, P1, p1⟩ => ?_) (tV_nxS E p)
  cases r with
  | ow d => exact p1.elim
  | bw k => exact p1.elim
  | sh d =>
    refine tV.mono (fun xv H2 ⟨x, ρ2, O2, P2, p2⟩ => ?_) (tV_nxS P1.re p1)
    refine tV.mono (fun yv H3 ⟨y, ρ3, O3, P3, p3⟩ => ?_) (tV_nxS P2.re p2)
    have Vr : Rp X.K H3 O3 v d := (P1.vr.later P1.re P2.fr).later P2.re P3.fr
    have Vx := P2.vr.later P2.re P3.fr
    split at p3
    · rename_i i' j ds q1 q2
      obtain ⟨_, h1, a, ea, h2, oa, ob⟩ := ownAt_ok P3.re Vx q2
      obtain ⟨xs, h3, r3⟩ := ob
      cases q3 : ixN ds.length i' with
      | none => rw [q3] at p3; exact p3.elim
      | some k =>
        rw [q3] at p3
        refine ⟨a, xs, i', k, ea, (P3.vr.rd P3.re q1).int, h3, by rw [r3.length]; exact q3, ?_⟩
        have kk := ke_at (u := .lst (xs.set k v)) oa (lst_nt h3)
        obtain ⟨E4, F4⟩ := RE.mut (d1 := .lst (ds.set k d)) P3.re h1 h2 upd_kpN ⟨_, upd_same⟩ (fun b z => .inl z) (fun b z => z) ⟨_, upd_same, (r3.set k Vr).ke kk⟩
        exact p3 σ _ O3 E4 F4
    · exact p3.elim⟩

/-! ### x.bit_length() -/
def gBits : D → Option Val
  | .int i => some (.sh (.int (Builtin.Int.intBits i : Nat)))
  | _ => none
theorem ve_bits {apos : Pos} (ha : VE X W a fa) (hbase : attributeBase a "bit_length" X.env (eval a X.env) = eval a X.env := by rfl) (hline : (apos.endLine == pos.line) = true := by rfl) : VE X W (.Call (.Attribute a "bit_length" apos) [] [] pos) (xUn gBits fa) :=
  ⟨PE.imp (pe_bits ha.pe hbase hline) fun σ H Q h => tV.mono (fun v H1 ⟨O, dx, r, h1, e, q⟩ => by
    unfold gBits at e
    split at e
    · cases e
      exact ⟨_, h1.int, q _ _ _ (NP.flat (.int _))⟩
    · cases e) (un_ok h)⟩

/-! ### displays of one pair -/
theorem RE.tmp {K : PySem.W.Frag} {p : Addr} {u : HO} (E : RE K ρ σ H O) (op : O p) (nw : ¬ Ow ρ σ p) (nl : ¬ Lk ρ σ p) (nt : ∀ xs, H p ≠ some (.tup xs)) : RE K ρ σ (upd H p u) O := by
  have k := ke_at (u := u) op nt
  refine ⟨E.len, fun i d h => ?_, fun i d h => ?_, fun i d h => ?_, E.inj⟩
  · obtain ⟨v, e, q⟩ := E.sh i d h
    exact ⟨v, e, q.ke k⟩
  · obtain ⟨a, e, o, q⟩ := E.ow i d h
    exact ⟨a, e, o, q.ke k fun o' h' _ => upd_kpN a o' h' fun z => nw ⟨i, d, h, by rw [← z]; exact e⟩⟩
  · obtain ⟨a, e, o, q⟩ := E.lk i d h
    exact ⟨a, e, o, q.ke k fun o' h' _ => upd_kpN a o' h' fun z => nl ⟨i, d, h, by rw [← z]; exact e⟩⟩
def dispD (dk : D) (w : V) : Option D := match dk with
  | .int i => some (.dk [(i, w)])
  | .tup ds => (asIs ds).map fun ns => .dt [(ns, w)]
  | _ => none
def isTup : D → Bool
  | .tup _ => true
  | _ => false
def xDisp1 (T : Bool) (fk fv : Ev Val) : Ev Val := fun ρ => bnd (fk ρ) fun x ρ1 => bnd (fv ρ1) fun y ρ2 => (rd ρ2 x).bind fun dk => (rd ρ2 y).bind fun dv => (dV dv).bind fun w => if isTup dk = T then (dispD dk w).map fun d => .ok (.ow d) ρ2 else none
theorem tV_nx0 {ρ0 : Env} {H0 : Hp} {O0 : Addr → Prop} {k : Val → Env → Option (R Val)} {Q : VK} (F : Fr ρ0 σ H0 O0 ρ σ H O) (E : RE X.K ρ σ H O) (h : Post X W ρ0 σ H0 O0 Q (bnd (f ρ) k)) :
    tV X W f σ H fun v H1 => ∃ r ρ1 O1, EPost X.K ρ σ H O r ρ1 v H1 O1 ∧ Post X W ρ0 σ H0 O0 Q (k r ρ1) := by
  refine ⟨ρ, O, E, ?_⟩
  cases q : f ρ with
  | none => rw [q] at h; exact h
  | some m =>
    rw [q] at h
    cases m with
    | er c => exact fun cls d H' x k => h cls d H' x (FrX.trans F k)
    | ok r ρ1 => exact fun v H1 O1 P => ⟨r, ρ1, O1, P, h⟩
theorem disp_ok {T : Bool} {Q : VK} {u0 : HO} (hu0 : ∀ xs, u0 ≠ .tup xs) (n0 : NT u0) (h : tV X W (xDisp1 T fk fv) σ H Q) : ∀ p, H p = none → tV X W fk σ (upd H p u0) fun x H1 => tV X W fv σ H1 fun y H2 => H2 p = some u0 ∧ ∃ O dk w d, Rd1 X.K H2 O x dk ∧ y = w ∧ isTup dk = T ∧ dispD dk w = some d ∧ ∀ u, (∀ O', Ob X.K (upd H2 p u) O' p d) → Q (.ref p) (upd H2 p u) := by
  obtain ⟨ρ, O, E, ph⟩ := h
  intro p hp
  have E0 : RE X.K ρ σ (upd H p u0) (addO O p) := E.ext (fun b o h _ => upd_kp hp b o h) (ke_new (o := u0) hp).sk fun _ z => .inl z
  have F0 : Fr ρ σ H O ρ σ (upd H p u0) (addO O p) := ⟨fun b o h _ _ => upd_kp hp b o h, fun b o h => ⟨o, upd_kp hp b o h⟩, (ke_new (o := u0) hp).sk, fun _ _ _ z _ => .inl z, fun _ z => .inl z, fun _ _ z => z, fun _ z => z⟩
  have nwp : ¬ Ow ρ σ p := fun z => by
    obtain ⟨i, z⟩ := z.ol
    obtain ⟨_, ⟨o, ho⟩, _⟩ := E.ol z
    rw [hp] at ho; cases ho
  have nlp : ¬ Lk ρ σ p := fun z => by
    obtain ⟨i, z⟩ := z.ol
    obtain ⟨_, ⟨o, ho⟩, _⟩ := E.ol z
    rw [hp] at ho; cases ho
  refine tV.mono (fun xv H1 ⟨x, ρ1, O1, P1, p1⟩ => ?_) (tV_nx0 F0 E0 ph)
  refine tV.mono (fun yv H2 ⟨y, ρ2, O2, P2, p2⟩ => ?_) (tV_nx0 (F0.trans P1.fr) P1.re p1)
  have F2 := P1.fr.trans P2.fr
  have hp2 : H2 p = some u0 := F2.kp p _ upd_same n0 nwp
  have op2 : O2 p := F2.st p _ upd_same (.inr rfl) nwp
  have nw2 : ¬ Ow ρ2 σ p := fun z => by
    rcases F2.ow p z with z | z
    · exact nwp z
    · rw [upd_same] at z; cases z
  have nl2 : ¬ Lk ρ2 σ p := fun z => nlp (F2.lk' p z)
  refine ⟨hp2, ?_⟩
  have Vx := P1.vr.later P1.re P2.fr
  cases q1 : rd ρ2 x with
  | none => rw [q1] at p2; exact p2.elim
  | some dk =>
    rw [q1] at p2
    have p2 : Post X W ρ σ H O Q ((rd ρ2 y).bind fun dv => (dV dv).bind fun w => if isTup dk = T then (dispD dk w).map fun d => .ok (.ow d) ρ2 else none) := p2
    cases q2 : rd ρ2 y with
    | none => rw [q2] at p2; exact p2.elim
    | some dv =>
      rw [q2] at p2
      have p2 : Post X W ρ σ H O Q ((dV dv).bind fun w => if isTup dk = T then (dispD dk w).map fun d => .ok (.ow d) ρ2 else none) := p2
      cases q3 : dV dv with
      | none => rw [q3] at p2; exact p2.elim
      | some w =>
        rw [q3] at p2
        have p2 : Post X W ρ σ H O Q (if isTup dk = T then (dispD dk w).map fun d => .ok (.ow d) ρ2 else none) := p2
        by_cases c : isTup dk = T
        · rw [if_pos c] at p2
          cases q4 : dispD dk w with
          | none => rw [q4] at p2; exact p2.elim
          | some d =>
            rw [q4] at p2
            refine ⟨O2, dk, w, d, Vx.rd P2.re q1, dV_eq (P2.vr.rd P2.re q2) q3, c, q4, fun u hob => ?_⟩
            have nt2 : ∀ xs, H2 p ≠ some (.tup xs) := fun xs e => hu0 xs (by rw [hp2] at e; exact Option.some.inj e)
            have E3 : RE X.K ρ2 σ (upd H2 p u) O2 := RE.tmp P2.re op2 nw2 nl2 nt2
            have FF := F0.trans F2
            have ne : ∀ b o, H b = some o → b ≠ p := fun b o h z => by rw [z, hp] at h; cases h
            refine p2 _ _ O2 ⟨E3, ⟨fun b o h t n => by rw [upd_ne (ne b o h)]; exact FF.kp b o h t n, fun b o h => by rw [upd_ne (ne b o h)]; exact FF.al b o h, FF.sk, FF.st, FF.ow, FF.lk, FF.z0⟩, ⟨p, rfl, op2, nw2, nl2, hob O2⟩, fun d' a e1 e2 => ?_⟩
            cases e2
            exact .inl hp
        · rw [if_neg c] at p2; exact p2.elim
theorem pairs1 {x y : V} {Q : List (V × V) → Hp → Prop} {tk tv : TE} (h : tk σ H fun x H1 => tv σ H1 fun y H2 => Q [(x, y)] H2) : tPairs [(tk, tv)] σ H Q := h
/-- {k: v}, k an int -/
theorem ve_disp1K (hk : VE X W a fk) (hv : VE X W b fv) : VE X W (.Dict [some a] [b] pos) (xDisp1 false fk fv) := ⟨PE.imp (pe_disp (pps_cons hk.pe hv.pe pps_nil) rfl rfl (by simp) (by simp)) fun σ H Q h p hp => by
  have := disp_ok (u0 := .dK []) (fun _ h => nomatch h) nt_dK h p hp
  refine tV.mono (fun x H1 h1 => tV.mono (fun y H2 ⟨h2, O, dk, w, d, hx, hy, hT, hd, q⟩ => ⟨h2, ?_⟩) h1) this
  unfold dispD at hd
  split at hd
  · rename_i i
    cases hd
    subst hy
    refine ⟨[(Sum.inl i, y)], by rw [hx.int]; rfl, by simp, ?_⟩
    exact q _ fun O' => upd_same
  · cases hT
  · cases hd⟩
/-- {k: v}, k a tuple -/
def tDisp1T (tk tv : TE) : TE := fun σ H Q => ∀ p, H p = none → tk σ (upd H p (.dT [])) fun x H1 => tv σ H1 fun y H2 => H2 p = some (.dT []) ∧ ∃ b ks, x = .ref b ∧ H2 b = some (.tup ((ks : List Key).map kV)) ∧ Q (.ref p) (upd H2 p (.dT [(ks, y)]))
theorem pe_disp1T {tk tv : TE} (hu : X.A.units + 64 < cLine) (hk : PE X a tk) (hv : PE X b tv) : PE X (.Dict [some a] [b] pos) (tDisp1T tk tv) := ⟨fun pins s σ H Q I q => by
  have hn := I.hok.fresh (Nat.le_refl s.heap.objs.size)
  have I1 := I.laid (a := s.heap.objs.size) (o := .dT []) (h' := s.heap.push { cls := .type "dict", data := .dict #[] }) (t' := s.toks) (fun _ _ q => Heap.get?_push_of_some _ q) (Nat.le_refl _) (dt_empty s.heap I.big)
  rw [arm_eval_Dict, zip_pairTrees [some a] [b] X.env pos rfl rfl, dictDisplay_pairs (pairTrees [some a] [b] X.env pos) (by intro h; have := congrArg List.length h; rw [pairTrees_length _ _ _ _ rfl rfl] at this; cases this) (by rw [pairTrees_length _ _ _ _ rfl rfl]; show 1 < 17; decide)]
  refine wpAny_bind (wpAny_standAt (wpAny_bind ?_))
  unfold subDict
  refine wpAny_bind (wpAny_alloc ?_)
  refine wpAny_bind (wpAny_holding ?_)
  rw [if_pos (by rw [pairTrees_length _ _ _ _ rfl rfl]; show 1 ≤ 15; decide)]
  refine wpAny_bind (pairTrees_cons_walk (thn (hk.run pins _ σ _ _ I1 (q _ hn)) fun u s1 ⟨x, H1, I2, rx, q1⟩ => thn (hv.run pins s1 σ H1 _ I2 q1) fun w2 s2 ⟨y, H2, I3, ry, h2, bb, ks, ex, hb, q2⟩ => pairTrees_nil_walk ?_))
  subst ex
  cases rx
  refine wpAny_holding ?_
  obtain ⟨z, hd, xs, rel, dd⟩ := dt_of I3.hok h2
  cases rel
  refine wpAny_bind ?_
  rw [List.forIn_cons]
  refine wpAny_bind (wpAny_bind (wpAny_dictSet_heap (hsz := Nat.zero_le _) (show X.A.units < cLine by omega) (key_of I3.hok hb) dd fun h' dd' hs => wpAny_pure ?_))
  dsimp only
  rw [List.forIn_nil]
  refine wpAny_pure (wpAny_pure (wpAny_pure (wpAny_pure ?_)))
  obtain ⟨o, es, ep, hq, g2, g3, g4, _, g5⟩ := dd'
  refine ⟨.ref s.heap.objs.size, _, d_write (ob := .dT [(ks, y)]) (t' := s2.toks + _) I3 (by rw [h2]; exact True.intro) hs ⟨o, hq⟩ ⟨by show 1 ≤ sizeLine; decide, hd, [(ks, bb, w2)], .cons ⟨rfl, ?_, ry⟩ .nil, o, es, ep, hq, g2, g3, g4, g5⟩, rfl, q2⟩
  rw [upd_ne (ne_of hb h2 (fun z => nomatch z))]
  exact hb⟩
theorem ve_disp1T (hu : X.A.units + 64 < cLine) (hk : VE X W a fk) (hv : VE X W b fv) : VE X W (.Dict [some a] [b] pos) (xDisp1 true fk fv) := ⟨PE.imp (pe_disp1T hu hk.pe hv.pe) fun σ H Q h p hp => by
  have := disp_ok (u0 := .dT []) (fun _ h => nomatch h) nt_dT h p hp
  refine tV.mono (fun x H1 h1 => tV.mono (fun y H2 ⟨h2, O, dk, w, d, hx, hy, hT, hd, q⟩ => ⟨h2, ?_⟩) h1) this
  unfold dispD at hd
  split at hd
  · cases hT
  · rename_i ds
    obtain ⟨ns, e1, rfl⟩ := Option.map_eq_some_iff.mp hd
    subst hy
    rw [asIs_eq e1] at hx
    obtain ⟨b, xs, rfl, hb, rb⟩ := hx.tup
    rw [RpAll.ints.mp rb] at hb
    exact ⟨b, ns.map Sum.inl, rfl, by rw [key_tup]; exact hb, q _ fun O' => upd_same⟩
  · cases hd⟩

/-! ### d != {} -/
theorem same_none {prog : Program} {w : World} {A : Around} {E : Value → Shared → Prop} {s : Shared} {nm : String} {a b : Addr} {oa ob : Obj} {es es' : Array DictEntry} {ep ep' : Nat} {Q : Bool → Shared → Prop} (ha : (a == sysModules) = false) (hb : (b == sysModules) = false)
    (hoa : s.heap.get? a = some oa) (hda : oa.data = .dict es ep) (hob : s.heap.get? b = some ob) (hdb : ob.data = .dict es' ep') (h0 : es'.size = 0) (h : Q (es.size == 0) s) :
    wpAny (model prog w) A (Builtin.Dict.samePairs nm a b) Q E s := by
  unfold Builtin.Dict.samePairs Builtin.Dict.showsAll
  rw [if_neg (show ¬ (a == sysModules) = true by rw [ha]; exact Bool.false_ne_true), if_neg (show ¬ (b == sysModules) = true by rw [hb]; exact Bool.false_ne_true)]
  refine wpAny_bind (wpAny_pure (wpAny_bind (wpAny_pure ?_)))
  refine wpAny_bind (wpAny_dictEntries hoa hda ?_)
  dsimp only
  refine wpAny_bind (wpAny_dictEntries hob hdb ?_)
  by_cases hsz : es.size = 0
  · rw [if_neg (by rw [hsz, h0]; simp)]
    refine wpAny_bind (wpAny_dictEpoch hoa hda ?_)
    refine wpAny_bind ?_
    rw [Std.Legacy.Range.forIn_eq_forIn_range']
    simp only [Std.Legacy.Range.size, Nat.sub_zero, Nat.add_sub_cancel, Nat.div_one]
    rw [hsz]
    rw [hsz] at h
    refine wpAny_pure ?_
    exact wpAny_pure h
  · rw [if_pos (by rw [h0]; simpa using hsz)]
    have e : (es.size == 0) = false := by simpa using hsz
    rw [e] at h
    exact wpAny_bind (wpAny_rule (wpAny_pure h))
theorem ne_dict_none {prog : Program} {w : World} {A : Around} {E : Value → Shared → Prop} {s : Shared} {a b : Addr} {oa ob : Obj} {es es' : Array DictEntry} {ep ep' : Nat} {Q : Value → Shared → Prop} (ha : (a == sysModules) = false) (hb : (b == sysModules) = false)
    (hoa : s.heap.get? a = some oa) (exa : oa.ExactDict) (hda : oa.data = .dict es ep) (hob : s.heap.get? b = some ob) (exb : ob.ExactDict) (hdb : ob.data = .dict es' ep') (h0 : es'.size = 0) (hu : A.units < cLine) (h : Q (.bool (!(es.size == 0))) s) :
    wpAny (model prog w) A (compareOp .NotEq (.ref a) (.ref b)) Q E s := by
  have ta : s.TypeIs (.ref a) "dict" := ⟨oa, hoa, exa.1⟩
  have tb : s.TypeIs (.ref b) "dict" := ⟨ob, hob, exb.1⟩
  refine wpAny_richCompare_same_room (op := .NotEq) ta tb PySem.F.slot_dict_ne (wpAny_call_entry PySem.F.slot_dict_ne ta PySem.F.entry_dict_ne ?_ (PySem.F.args_dict_ne_2 _ _)) hu
  show wpAny _ _ (Builtin.Dict.dictSlotArgs "__ne__" ⟨[.ref a, .ref b], []⟩ >>= _) _ _ s
  refine wpAny_bind ?_
  unfold Builtin.Dict.dictSlotArgs
  refine wpAny_bind (wpAny_notOrdered_dict ta ?_)
  show wpAny _ _ (pure (Value.ref a, Value.ref b)) _ _ s
  refine wpAny_pure ?_
  refine wpAny_bind (wpAny_isInstance (T := "dict") tb PySem.F.sub_dict_dict ?_)
  simp only [Bool.not_true, Bool.false_eq_true, if_false]
  refine wpAny_bind (wpAny_pure (wpAny_bind (wpAny_pure ?_)))
  refine wpAny_bind (same_none ha hb hoa hda hob hdb h0 ?_)
  refine wpAny_pure ⟨_, rfl, ?_, ?_⟩
  · exact fun x => nomatch x
  · simpa using h
def gNeE : D → D → Option Val
  | .dt kvs, .dt [] => some (.sh (.bl (!kvs.isEmpty)))
  | _, _ => none
theorem od_neE (hu : X.A.units + 64 < cLine) : OpR X (compareOp .NotEq) (rD2 X gNeE) := opD fun pins s σ H O x y v u dx dy r Q I rx ry hx hy e q => by
  unfold gNeE at e
  split at e
  · rename_i kvs
    cases e
    obtain ⟨a, rfl, hd⟩ := hx.dt
    obtain ⟨b, rfl, hd2⟩ := hy.dt
    cases rx
    cases ry
    obtain ⟨z, hs, ks, pr, oa, es, ep, ho, hxx, hdt, he, hn⟩ := (show ObjOk X.prog X.w H s.heap a (.dT (kvs.map kT)) from hd.ok I.hok)
    obtain ⟨z2, hs2, ks2, pr2, ob, es2, ep2, ho2, hx2, hdt2, he2, hn2⟩ := (show ObjOk X.prog X.w H s.heap b (.dT (([] : List (List Int × V)).map kT)) from hd2.ok I.hok)
    have l2 := Paired.length pr2
    have l1 := Paired.length pr
    have s1 := size_of_entries he
    have s2 := size_of_entries he2
    rw [List.length_map] at l1 l2
    refine ne_dict_none hs hs2 ho hxx hdt ho2 hx2 hdt2 (by rw [s2, ← l2]; rfl) (by omega) ⟨.bl _, H, I, rfl, ?_⟩
    have e : (es.size == 0) = kvs.isEmpty := by
      rw [s1, ← l1]
      cases kvs <;> rfl
    rw [e]
    exact q _ _ _ (NP.flat (.bl _))
  · cases e
end
end Lf

set_option Elab.async false
set_option linter.all false
set_option maxRecDepth 100000
/-! Lf, part O: a def is what its body says; sorted(set(xs)). -/
namespace Lf
open PySem PySem.Spec L2

/-! ### defs -/
def envOf (ds : List D) (N : Nat) : Env := ds.map Slot.sh ++ List.replicate (N - ds.length) Slot.no
def retR : Val → D → Option RR
  | .sh d, io => some (.ok (.sh d) io)
  | .ow d, io => some (.ok (.ow d) io)
  | .bw _, _ => none
def runF (N n : Nat) (f : Ev Fl) : Fn := fun ds => if ds.length = n then (match f (envOf ds N) with
  | none => none
  | some (.er c) => some (.er c)
  | some (.ok .nx _) => some (.ok (.sh .non) .non)
  | some (.ok (.rt r) _) => retR r .non) else none
/-- the first argument is changed -/
def runIo (N n : Nat) (f : Ev Fl) : Fn := fun ds => match ds with
  | [] => none
  | d0 :: ds => if ds.length + 1 = n then (match f (Slot.ow d0 :: envOf ds (N - 1)) with
    | none => none
    | some (.er c) => some (.er c)
    | some (.ok .nx ρ) => (match ρ[0]? with
      | some (Slot.ow d1) => some (.ok (.sh .non) d1)
      | _ => none)
    | some (.ok (.rt r) ρ) => (match ρ[0]? with
      | some (Slot.ow d1) => retR r d1
      | _ => none)) else none
section
variable {K : PySem.W.Frag} {H H' : Hp} {O O' : Addr → Prop}
theorem env_get {ds : List D} {N i : Nat} {d : D} (h : (envOf ds N)[i]? = some (Slot.sh d)) : ds[i]? = some d := by
  unfold envOf at h
  by_cases c : i < ds.length
  · rw [List.getElem?_append_left (by rw [List.length_map]; exact c), List.getElem?_map] at h
    cases q : ds[i]? with
    | none => rw [q] at h; cases h
    | some d' => rw [q] at h; cases h; rfl
  · rw [List.getElem?_append_right (by rw [List.length_map]; omega)] at h
    obtain ⟨_, h⟩ := List.getElem?_eq_some_iff.mp h
    rw [List.getElem_replicate] at h
    cases h
theorem env_no {ds : List D} {N i : Nat} {s : Slot} (h : (envOf ds N)[i]? = some s) : s = .no ∨ ∃ d, s = .sh d := by
  unfold envOf at h
  by_cases c : i < ds.length
  · rw [List.getElem?_append_left (by rw [List.length_map]; exact c), List.getElem?_map] at h
    cases q : ds[i]? with
    | none => rw [q] at h; cases h
    | some d' => rw [q] at h; cases h; exact .inr ⟨_, rfl⟩
  · rw [List.getElem?_append_right (by rw [List.length_map]; omega)] at h
    obtain ⟨_, h⟩ := List.getElem?_eq_some_iff.mp h
    rw [List.getElem_replicate] at h
    exact .inl h.symm
theorem start_get {N : List Str} {vs : List V} {i : Nat} {v : V} (h : vs[i]? = some v) : (L2.start N vs)[i]? = some (some v) := by
  obtain ⟨hi, e⟩ := List.getElem?_eq_some_iff.mp h
  unfold L2.start
  rw [List.getElem?_append_left (by rw [List.length_map]; exact hi), List.getElem?_map, h]
  rfl
theorem re_start {N : List Str} {vs : List V} {ds : List D} (hl : ds.length ≤ N.length) (r : RpAll K H O vs ds) : RE K (envOf ds N.length) (L2.start N vs) H O := by
  have l := r.length
  refine ⟨?_, fun i d h => ?_, fun i d h => ?_, fun i d h => ?_, fun i j a h1 h2 => ?_⟩
  · unfold envOf L2.start
    rw [List.length_append, List.length_append, List.length_map, List.length_map, List.length_replicate, List.length_replicate, l]
  · obtain ⟨v, e, q⟩ := r.get (env_get h)
    exact ⟨v, start_get e, q⟩
  · rcases env_no h with e | ⟨_, e⟩ <;> cases e
  · rcases env_no h with e | ⟨_, e⟩ <;> cases e
  · obtain ⟨⟨d, h1 | h1⟩, _⟩ := h1
    · rcases env_no h1 with e | ⟨_, e⟩ <;> cases e
    · rcases env_no h1 with e | ⟨_, e⟩ <;> cases e
theorem no_own {ds : List D} {N : Nat} {σ : St} {b : Addr} : ¬ Ow (envOf ds N) σ b := fun ⟨i, d, h, _⟩ => by
  rcases env_no h with e | ⟨_, e⟩ <;> cases e
end
section
variable {P : Program} {w : World} {K : PySem.W.Frag} {mg : Str → Option Value} {base : Heap}
theorem fn_ok {x qual : Str} {st : Stmt} {f : Addr} {fd : FuncData} {N ps : List Str} {k n : Nat} {fB : Ev Fl} (F : Fun K x qual st f fd) (S : FnScope N ps (defScope st)) (hn : ps.length = n) (hN : n ≤ N.length)
    (hbody : ∀ (cdv : Value) (A : Around) (outer : List PySem.Env) (s : Shared) (H : Hp) (E : XK), Room k (A.deeper (PyProof.Rows.envOfC qual (defScope st) s.heap.objs.size f cdv)) →
      VSs (cxOf (L2.CX P w) P w K mg base N qual (defScope st) f cdv A outer s H E) (fun cls d _ H => E cls d H) (defBody st) fB) : FnOk P w K mg base (L2.CX P w) (k + 1) f fd ps (spV K mg n (runF N.length n fB)) := by
  refine F.okX S (fun vs H Q E h => h.1.trans hn.symm) fun cdv A outer s H vs Q E hr h => ?_
  obtain ⟨hl, O, ds, r, q⟩ := h
  refine ⟨_, (hbody cdv A outer s H E hr).pss, envOf ds N.length, O, re_start (by rw [← r.length, hl]; exact hN) r, ?_⟩
  unfold runF at q
  rw [if_pos (by rw [← r.length]; exact hl)] at q
  cases e : fB (envOf ds N.length) with
  | none => rw [e] at q; exact q
  | some m =>
    rw [e] at q
    cases m with
    | er c => exact fun cls d σ' H' x k => q cls d H' x fun b o h t => k b o h t no_own
    | ok fl ρ' =>
      cases fl with
      | nx =>
        intro σ' H' O' E' F'
        exact q .non H' O' ⟨fun b o h t _ => F'.kp b o h t no_own, F'.al, F'.sk, fun b o h z => F'.st b o h z no_own, .non⟩
      | rt r =>
        intro v σ' H' O' E' F' V og
        have q : SpR K mg H O Q E (retR r .non) := q
        cases r with
        | sh d => exact q v H' O' ⟨fun b o h t _ => F'.kp b o h t no_own, F'.al, F'.sk, fun b o h z => F'.st b o h z no_own, V⟩
        | ow d =>
          refine q v H' O' ⟨fun b o h t _ => F'.kp b o h t no_own, F'.al, F'.sk, fun b o h z => F'.st b o h z no_own, ?_⟩
          obtain ⟨a, ea, oa, nw, nl, ob⟩ := V
          rcases og d a rfl ea with z | z
          · exact ⟨a, ea, z, oa, ob⟩
          · exact absurd z no_own
        | bw i => exact q.elim
/-- a def with no promise at all: a recursion's ground -/
theorem fn_none {f : Addr} {fd : FuncData} {ps : List Str} {n : Nat} (hn : ps.length = n) : FnOk P w K mg base (L2.CX P w) 0 f fd ps (spV K mg n fun _ => none) :=
  ⟨fun vs H Q E h => h.1.trans hn.symm, fun A outer s H args us vs Q E _ _ _ _ h => by
    obtain ⟨_, O, ds, _, q⟩ := h
    exact q.elim⟩
theorem fn_okIo {x qual : Str} {st : Stmt} {f : Addr} {fd : FuncData} {N ps : List Str} {k n : Nat} {fB : Ev Fl} (F : Fun K x qual st f fd) (S : FnScope N ps (defScope st)) (hn : ps.length = n) (hN : n ≤ N.length)
    (hbody : ∀ (cdv : Value) (A : Around) (outer : List PySem.Env) (s : Shared) (H : Hp) (E : XK), Room k (A.deeper (PyProof.Rows.envOfC qual (defScope st) s.heap.objs.size f cdv)) →
      VSs (cxOf (L2.CX P w) P w K mg base N qual (defScope st) f cdv A outer s H E) (fun cls d _ H => E cls d H) (defBody st) fB) : FnOk P w K mg base (L2.CX P w) (k + 1) f fd ps (spIo K mg n (runIo N.length n fB)) := by
  refine F.okX S (fun vs H Q E h => h.1.trans hn.symm) fun cdv A outer s H vs Q E hr h => ?_
  obtain ⟨hl, O, a, d0, vs', ds, rfl, oa, ob, r, q⟩ := h
  rw [List.length_cons] at hl
  have l := r.length
  have hN1 : N.length = N.length - 1 + 1 := by omega
  -- the state at the start
  have sl : L2.start N (.ref a :: vs') = some (V.ref a) :: (vs'.map some ++ List.replicate (N.length - (vs'.length + 1)) none) := by
    unfold L2.start
    rw [List.map_cons, List.length_cons]; rfl
  have ol0 : ∀ j b, OL (Slot.ow d0 :: envOf ds (N.length - 1)) (L2.start N (.ref a :: vs')) j b → j = 0 ∧ b = a := fun j b ⟨⟨d, h⟩, e⟩ => by
    cases j with
    | zero =>
      rw [sl] at e
      cases e
      exact ⟨rfl, rfl⟩
    | succ j =>
      rw [List.getElem?_cons_succ] at h
      rcases h with h | h
      · rcases env_no h with e | ⟨_, e⟩ <;> cases e
      · rcases env_no h with e | ⟨_, e⟩ <;> cases e
  have ow0 : ∀ b, Ow (Slot.ow d0 :: envOf ds (N.length - 1)) (L2.start N (.ref a :: vs')) b → b = a := fun b z => by
    obtain ⟨j, z⟩ := z.ol
    exact (ol0 j b z).2
  have hE : RE K (Slot.ow d0 :: envOf ds (N.length - 1)) (L2.start N (.ref a :: vs')) H O := by
    refine ⟨?_, fun i d h => ?_, fun i d h => ?_, fun i d h => ?_, fun i j b h1 h2 => ?_⟩
    · rw [sl]
      unfold envOf
      rw [List.length_cons, List.length_cons, List.length_append, List.length_append, List.length_map, List.length_map, List.length_replicate, List.length_replicate, l]
      omega
    · cases i with
      | zero => cases h
      | succ i =>
        rw [List.getElem?_cons_succ] at h
        obtain ⟨v, e, q⟩ := r.get (env_get h)
        refine ⟨v, ?_, q⟩
        exact start_get (vs := .ref a :: vs') (i := i + 1) (by rw [List.getElem?_cons_succ]; exact e)
    · cases i with
      | zero =>
        cases h
        exact ⟨a, by rw [sl]; rfl, oa, ob⟩
      | succ i =>
        rw [List.getElem?_cons_succ] at h
        rcases env_no h with e | ⟨_, e⟩ <;> cases e
    · cases i with
      | zero => cases h
      | succ i =>
        rw [List.getElem?_cons_succ] at h
        rcases env_no h with e | ⟨_, e⟩ <;> cases e
    · rw [(ol0 i b h1).1, (ol0 j b h2).1]
  refine ⟨_, (hbody cdv A outer s H E hr).pss, Slot.ow d0 :: envOf ds (N.length - 1), O, hE, ?_⟩
  unfold runIo at q
  have q : SpRio K mg a H O Q E (if ds.length + 1 = n then (match fB (Slot.ow d0 :: envOf ds (N.length - 1)) with
    | none => none
    | some (.er c) => some (.er c)
    | some (.ok .nx ρ) => (match ρ[0]? with
      | some (Slot.ow d1) => some (.ok (.sh .non) d1)
      | _ => none)
    | some (.ok (.rt r) ρ) => (match ρ[0]? with
      | some (Slot.ow d1) => retR r d1
      | _ => none)) else none) := q
  rw [if_pos (by rw [← l]; exact hl)] at q
  cases e : fB (Slot.ow d0 :: envOf ds (N.length - 1)) with
  | none => rw [e] at q; exact q
  | some m =>
    rw [e] at q
    cases m with
    | er c => exact fun cls d σ' H' x k => q cls d H' x fun b o h t n => k b o h t fun z => n (ow0 b z)
    | ok fl ρ' =>
      -- the first slot is the same object still
      have same : ∀ {σ' : St} {H' : Hp} {O' : Addr → Prop} {d1 : D}, RE K ρ' σ' H' O' → Fr (Slot.ow d0 :: envOf ds (N.length - 1)) (L2.start N (.ref a :: vs')) H O ρ' σ' H' O' → ρ'[0]? = some (Slot.ow d1) → O' a ∧ Ob K H' O' a d1 := fun {σ' H' O' d1} E' F' h => by
        obtain ⟨b, e1, ob1, oo⟩ := E'.ow 0 _ h
        have eb := (ol0 0 b (F'.z0 b ⟨⟨_, .inl h⟩, e1⟩)).2
        subst eb
        exact ⟨ob1, oo⟩
      have kp : ∀ {σ' : St} {H' : Hp} {O' : Addr → Prop}, Fr (Slot.ow d0 :: envOf ds (N.length - 1)) (L2.start N (.ref a :: vs')) H O ρ' σ' H' O' → RE K ρ' σ' H' O' → (∃ d1, ρ'[0]? = some (Slot.ow d1)) → (∀ b o, H b = some o → NT o → ¬ b = a → H' b = some o) ∧ (∀ b o, H b = some o → O b → O' b) := fun {σ' H' O'} F' E' ⟨d1, h1⟩ => ⟨fun b o h t n => F'.kp b o h t fun z => n (ow0 b z), fun b o h z => by
        by_cases e : b = a
        · rw [e]; exact (same E' F' h1).1
        · exact F'.st b o h z fun w => e (ow0 b w)⟩
      cases fl with
      | nx =>
        intro σ' H' O' E' F'
        have q : SpRio K mg a H O Q E (match ρ'[0]? with
          | some (Slot.ow d1) => some (.ok (.sh .non) d1)
          | _ => none) := q
        split at q
        · rename_i d1 h1
          obtain ⟨k1, k2⟩ := kp F' E' ⟨d1, h1⟩
          obtain ⟨s1, s2⟩ := same E' F' h1
          exact q .non H' O' ⟨k1, F'.al, F'.sk, k2, .non⟩ s1 s2
        · exact q.elim
      | rt r =>
        intro v σ' H' O' E' F' V og
        have q : SpRio K mg a H O Q E (match ρ'[0]? with
          | some (Slot.ow d1) => retR r d1
          | _ => none) := q
        split at q
        · rename_i d1 h1
          obtain ⟨k1, k2⟩ := kp F' E' ⟨d1, h1⟩
          obtain ⟨s1, s2⟩ := same E' F' h1
          cases r with
          | sh d => exact q v H' O' ⟨k1, F'.al, F'.sk, k2, V⟩ s1 s2
          | ow d =>
            refine q v H' O' ⟨k1, F'.al, F'.sk, k2, ?_⟩ s1 s2
            obtain ⟨b, ea, ob', nw, nl, oo⟩ := V
            rcases og d b rfl ea with z | z
            · exact ⟨b, ea, z, ob', oo⟩
            · have e := ow0 b z
              subst e
              refine absurd ⟨0, d1, h1, ?_⟩ nw
              obtain ⟨b', e1, _, _⟩ := E'.ow 0 _ h1
              have eb := (ol0 0 b' (F'.z0 b' ⟨⟨_, .inl h1⟩, e1⟩)).2
              rw [eb] at e1
              exact e1
          | bw i => exact q.elim
        · exact q.elim

/-! ### sorted(set(xs)) -/
def dd : List (List Int) → List (List Int)
  | [] => []
  | k :: ks => if k ∈ ks then dd ks else k :: dd ks
theorem dd_mem : ∀ {ks : List (List Int)} {k : List Int}, k ∈ dd ks ↔ k ∈ ks
  | [], k => Iff.rfl
  | q :: ks, k => by
    unfold dd
    by_cases c : q ∈ ks
    · rw [if_pos c, dd_mem, List.mem_cons]
      exact ⟨.inr, fun h => h.elim (fun e => by rw [e]; exact c) id⟩
    · rw [if_neg c, List.mem_cons, List.mem_cons, dd_mem]
theorem dd_nodup : ∀ (ks : List (List Int)), (dd ks).Nodup
  | [] => .nil
  | q :: ks => by
    unfold dd
    by_cases c : q ∈ ks
    · rw [if_pos c]; exact dd_nodup ks
    · rw [if_neg c]; exact List.nodup_cons.mpr ⟨fun h => c (dd_mem.mp h), dd_nodup ks⟩
theorem sortT_perm {a b : List (List Int)} (p : a.Perm b) : sortT a = sortT b := by
  refine sortT_eq ((List.mergeSort_perm a _).trans p) ?_
  have := List.pairwise_mergeSort (le := leT) (fun a b c h1 h2 => by
    unfold leT at *
    have h1 : HT.lexLt b a = false := by simpa using h1
    have h2 : HT.lexLt c b = false := by simpa using h2
    simpa using lexLe_tr a b c h1 h2) (fun a b => by
    unfold leT
    cases h : HT.lexLt b a with
    | false => rfl
    | true => rw [lexLt_asym b a h]; rfl) a
  exact this.imp fun h => by unfold leT at h; simpa using h
def rSortSet (X : Cx) : List V → Hp → VK → Prop := fun vs H Q => ∃ (a : Addr) (L : List (Addr × List Int)) (O : Addr → Prop), vs = [V.ref a] ∧ H a = some (SetTO X.prog X.w a L) ∧ (∀ p ∈ L, H p.1 = some (.tup (p.2.map V.int))) ∧
  ∀ v H' O', (L.map (·.2)).Nodup → NP X.K H O (.ow (.lst ((sortT (L.map (·.2))).map dTI))) v H' O' → Q v H'
theorem cr_sortSet {X : Cx} (hcalm : X.calm = true) (hu : X.A.units + 64 < cLine) : CallR X (.builtin "sorted") (rSortSet X) := by
  intro pins s σ H vs us Q I r ⟨a, L, O, e, ha, hk, q⟩
  subst e
  rw [Vals.ref1 r]
  have R0 : SetT0 X.prog X.w s.heap a L := (I.hok a _ ha).1
  obtain ⟨es, ep, t, R⟩ := R0.full fun p hp => I.isT (SqT.of (hk p hp))
  have prd : Paired (VD X H O) (L.map fun p => Value.ref p.1) (L.map fun p => dTI p.2) := by
    clear ha q R R0
    induction L with
    | nil => exact .nil
    | cons p L ih => exact .cons ⟨.ref p.1, rfl, .tup (hk p List.mem_cons_self) (RpAll.ints.mpr rfl)⟩ (ih fun p' h => hk p' (List.mem_cons_of_mem _ h))
  have em : (L.map fun p => dTI p.2) = (L.map (·.2)).map dTI := by rw [List.map_map]; rfl
  refine sorted_d (O := O) (ds := L.map fun p => dTI p.2) hu I (fun RR EE h => ?_) (by rw [List.length_map]; have := R.few; rw [sizeLine_eq]; omega) (by rw [em]; exact sortL_tI) fun v H' O' n => q v H' O' R.nd n
  obtain ⟨o, ho, hex, hd⟩ := R.ob
  have hsz := R.size
  have hfew := R.few
  refine collect_set (A := X.A.in1) (I.ok.hd hcalm) ⟨o, ho, hex.1, hd⟩ R.fits (by unfold scanBound; omega) R.tab.ris R.led fun s1 vs k1 hz g1 o1 pm => ?_
  have hes : es.toList.map (·.2) = L.map fun q => Value.ref q.1 := by
    rw [R.rows]
    unfold rowsOf
    rw [List.map_map] <;> rfl
  rw [hes] at pm
  obtain ⟨ds', h1, h2⟩ := paired_perm pm prd
  exact h s1 vs k1 g1 o1 ⟨ds', h1, h2⟩
theorem NP.trans0 {K : PySem.W.Frag} {H H1 H' : Hp} {O O' : Addr → Prop} {r : Val} {v : V} (kp : ∀ b o, H b = some o → H1 b = some o) (n : NP K H1 O r v H' O') : NP K H O r v H' O' := by
  have no : ∀ b, H1 b = none → H b = none := fun b h => by
    cases q : H b with
    | none => rfl
    | some o => rw [kp b o q] at h; cases h
  refine ⟨fun b o h => n.kp b o (kp b o h), fun b z => (n.sk b z).imp id (no b), n.st, ?_⟩
  have := n.vr
  cases r with
  | sh d => exact this
  | ow d =>
    obtain ⟨a, e, h, o, z⟩ := this
    exact ⟨a, e, no a h, o, z⟩
  | bw i => exact this
theorem tups_addr {K : PySem.W.Frag} {H : Hp} {O : Addr → Prop} : ∀ {xs : List V} {kss : List (List Int)}, RpAll K H O xs (kss.map dTI) → ∃ ks : List (Addr × List Int), xs = ks.map (fun p => V.ref p.1) ∧ ks.map (·.2) = kss ∧ ∀ p ∈ ks, H p.1 = some (.tup (p.2.map V.int))
  | [], [], _ => ⟨[], rfl, rfl, fun p h => by cases h⟩
  | [], _ :: _, h => nomatch h
  | _ :: _, [], h => nomatch h
  | x :: xs, k :: kss, h => by
    cases h with
    | cons h1 h2 =>
      cases h1 with
      | @tup a ys _ ha hr =>
        rw [RpAll.ints.mp hr] at ha
        obtain ⟨ks, e1, e2, h3⟩ := tups_addr h2
        refine ⟨(a, k) :: ks, by rw [e1]; rfl, by rw [List.map_cons, e2], fun p hp => ?_⟩
        rcases List.mem_cons.mp hp with z | z
        · subst z; exact ha
        · exact h3 p z
def xSortSet (f : Ev Val) : Ev Val := fun ρ => bnd (f ρ) fun x ρ1 => match rd ρ1 x with
  | some (.lst ds) => (asTs ds).bind fun kss => if kss.length < 64 then some (.ok (.ow (.lst ((sortT (dd kss)).map dTI))) ρ1) else none
  | _ => none
theorem ve_sortSet {X : Cx} {W : WX} {e : Expr} {f : Ev Val} {p p2 q pos : Pos} (hc : X.calm = true) (hu : X.A.units + 64 < cLine) (hg : Gl X "sorted") (hm : X.mg "sorted" = none) (hg2 : Gl X "set") (hm2 : X.mg "set" = none) (he : VE X W e f)
    (hs : starEach [e] X.env = (false, eval e X.env) :: starEach [] X.env := by rfl) (hs2 : starEach [.Call (.Name "set" p2) [e] [] q] X.env = (false, eval (.Call (.Name "set" p2) [e] [] q) X.env) :: starEach [] X.env := by rfl)
    (hv : bootBuiltins "sorted" = some (.builtin "sorted") := by with_unfolding_all rfl) (hv2 : bootBuiltins "set" = some (.type "set") := by with_unfolding_all rfl) (hpl : (backTo q (starEach [] X.env)).any (·.1) = false := by rfl) (hpl2 : (backTo pos (starEach [] X.env)).any (·.1) = false := by rfl) :
    VE X W (.Call (.Name "sorted" p) [.Call (.Name "set" p2) [e] [] q] [] pos) (xSortSet f) :=
  ⟨PE.imp (pe_callB (cr_sortSet hc hu) hg hm hv (pa_cons (pe_callTy (cr_setOfT hc hu) hg2 hm2 hv2 (pa_cons he.pe pa_nil hs) (by decide) (by decide) hs hpl) pa_nil hs2) (by decide) (by decide) hs2 hpl2) fun σ H Q ⟨ρ, O, E, pp⟩ => by
    refine tV.mono (fun v H1 ⟨x, ρ1, O1, E1, V1, p1⟩ => ?_) (tV_bndV E pp)
    split at p1
    · rename_i ds q1
      obtain ⟨a, xs, rfl, h1, r1⟩ := (V1.rd E1 q1).lst
      cases q2 : asTs ds with
      | none => rw [q2] at p1; exact p1.elim
      | some kss =>
        rw [q2] at p1
        have p1 : Post X W ρ1 σ H1 O1 Q (if kss.length < 64 then some (.ok (.ow (.lst ((sortT (dd kss)).map dTI))) ρ1) else none) := p1
        by_cases c : kss.length < 64
        · rw [if_pos c] at p1
          rw [asTs_eq q2] at r1
          obtain ⟨ks, e1, e2, h3⟩ := tups_addr r1
          subst e1
          refine ⟨a, ks, rfl, h1, fun p hp => SqT.of (h3 p hp), by rw [← e2, List.length_map] at c; exact c, fun b L hb hL hcov => ?_⟩
          have kp := upd_kp (o := SetTO X.prog X.w b L) hb
          refine ⟨b, L, O1, rfl, upd_same, fun p hp => kp _ _ (h3 p (hL p hp)), fun v' H' O' nd n => ?_⟩
          have e3 : sortT (L.map (·.2)) = sortT (dd kss) := sortT_perm ((List.perm_ext_iff_of_nodup nd (dd_nodup kss)).mpr fun k => by
            rw [dd_mem, ← e2]
            constructor
            · intro h
              obtain ⟨p, hp, rfl⟩ := List.mem_map.mp h
              exact List.mem_map.mpr ⟨p, hL p hp, rfl⟩
            · intro h
              obtain ⟨p, hp, rfl⟩ := List.mem_map.mp h
              exact hcov p hp)
          rw [e3] at n
          exact p1 v' H' O' ((n.trans0 kp).post E1)
        · rw [if_neg c] at p1; exact p1.elim
    · exact p1.elim⟩
end
end Lf

set_option Elab.async false
set_option linter.all false
set_option maxRecDepth 100000
/-! Lf, part P: two lists are made, looked at in a list of both, and then spoiled (x = [f(..), g(..)]; a test; x[0].append(()); x[1].append(None)). -/
namespace Lf
open PySem PySem.Spec L2

def slotImm : Slot → Bool
  | .no => true
  | .sh d => imm d
  | .ow d => immEl d
  | .lk d => immEl d
theorem imm_ints : ∀ ns : List Int, immAll (ns.map .int) = true
  | [] => rfl
  | n :: ns => by
    rw [List.map_cons]
    unfold immAll
    rw [imm_ints ns]; rfl
theorem imm_tI (ns : List Int) : imm (dTI ns) = true := by
  unfold dTI imm
  exact imm_ints ns
theorem imm_tIs : ∀ ks : List (List Int), immAll (ks.map dTI) = true
  | [] => rfl
  | k :: ks => by
    rw [List.map_cons]
    unfold immAll
    rw [imm_tI, imm_tIs ks]; rfl
/-- a slot that the spoiling of two lists leaves: flat, or a list that stood in its slot before -/
def slotOk : Option Slot → Option Slot → Bool
  | _, none => true
  | some (.ow _), some (.sh (.lst ds)) => immAll ds
  | some (.sh (.lst ds0)), some (.sh (.lst ds)) => decide (asTs ds0 = asTs ds) && (asTs ds).isSome
  | _, some s => slotImm s
theorem slotOk_ow {o : Option Slot} {d : D} (h : slotOk o (some (.ow d)) = true) : immEl d = true := by
  unfold slotOk at h
  split at h
  · rename_i hs; cases hs
  · rename_i hs; cases hs
  · rename_i hs; cases hs
  · rename_i hs; cases hs; exact h
theorem slotOk_lk {o : Option Slot} {d : D} (h : slotOk o (some (.lk d)) = true) : immEl d = true := by
  unfold slotOk at h
  split at h
  · rename_i hs; cases hs
  · rename_i hs; cases hs
  · rename_i hs; cases hs
  · rename_i hs; cases hs; exact h
def okRest (ρ2 ρ3 : Env) : Bool := (List.range ρ3.length).all fun k => slotOk ρ2[k]? ρ3[k]?
theorem okRest_at {ρ2 ρ3 : Env} (h : okRest ρ2 ρ3 = true) {k : Nat} {s : Slot} (hk : ρ3[k]? = some s) : slotOk ρ2[k]? (some s) = true := by
  have hl : k < ρ3.length := (List.getElem?_eq_some_iff.mp hk).1
  have := List.all_eq_true.mp h k (List.mem_range.mpr hl)
  rw [hk] at this
  exact this
def sFour (j : Nat) (fe1 fe2 : Ev Val) (ct : Ev Bool) : Ev Fl := fun ρ => bnd (fe1 ρ) fun r1 ρ1 => bnd (fe2 ρ1) fun r2 ρ2 => match r1, r2 with
  | .ow (.lst as), .ow (.lst bs) => if as.length + 2 ≤ sizeLine ∧ bs.length + 2 ≤ sizeLine ∧ j < ρ2.length then bnd (ct (ρ2.set j (.sh (.lst [.lst as, .lst bs])))) fun b ρ3 => (if b = true then some (.ok (.rt (.sh (.bl false))) ρ3) else if okRest ρ2 (ρ3.set j .no) = true then some (.ok .nx (ρ3.set j .no)) else none) else none
  | _, _ => none
section
variable {K : PySem.W.Frag} {H H' : Hp} {O O' : Addr → Prop}
mutual
theorem Rp.immH (k : ∀ b xs, H b = some (.tup xs) → H' b = some (.tup xs)) : ∀ {d : D} {v : V}, Lf.imm d = true → Rp K H O v d → Rp K H' O' v d
  | .non, _, _, h => by cases h; exact .non
  | .bl b, _, _, h => by cases h; exact .bl b
  | .int i, _, _, h => by cases h; exact .int i
  | .str x, _, _, h => by cases h; exact .str x
  | .tup ds, _, e, h => by
    cases h with
    | tup h1 h2 => exact .tup (k _ _ h1) (RpAll.immH k (by simpa [Lf.imm] using e) h2)
  | .lst ds, _, e, _ => by simp [Lf.imm] at e
  | .dk _, _, e, _ => by simp [Lf.imm] at e
  | .dt _, _, e, _ => by simp [Lf.imm] at e
theorem RpAll.immH (k : ∀ b xs, H b = some (.tup xs) → H' b = some (.tup xs)) : ∀ {ds : List D} {vs : List V}, immAll ds = true → RpAll K H O vs ds → RpAll K H' O' vs ds
  | [], _, _, h => by cases h; exact .nil
  | d :: ds, _, e, h => by
    cases h with
    | cons h1 h2 =>
      simp only [immAll, Bool.and_eq_true] at e
      exact .cons (Rp.immH k e.1 h1) (RpAll.immH k e.2 h2)
end
theorem Ob.immH {a : Addr} (k : ∀ b xs, H b = some (.tup xs) → H' b = some (.tup xs)) (ha : H' a = H a) : ∀ {d : D}, immEl d = true → Ob K H O a d → Ob K H' O' a d
  | .lst _, e, ⟨xs, h, r⟩ => ⟨xs, by rw [ha]; exact h, r.immH k e⟩
  | .dk _, _, h => by show H' a = _; rw [ha]; exact h
  | .dt _, _, h => by show H' a = _; rw [ha]; exact h
  | .non, _, h => h
  | .bl _, _, h => h
  | .int _, _, h => h
  | .str _, _, h => h
  | .tup _, _, h => h
theorem ObR.immH {a : Addr} (k : ∀ b xs, H b = some (.tup xs) → H' b = some (.tup xs)) (ha : H' a = H a) : ∀ {d : D}, immEl d = true → ObR K H O a d → ObR K H' O' a d
  | .lst _, e, ⟨xs, h, r⟩ => ⟨xs, by unfold Rd at h ⊢; rw [ha]; exact h, r.immH k e⟩
  | .dk _, _, h => by show Rd H' a _; unfold Rd; rw [ha]; exact h
  | .dt _, _, h => by show Rd H' a _; unfold Rd; rw [ha]; exact h
  | .non, _, h => h
  | .bl _, _, h => h
  | .int _, _, h => h
  | .str _, _, h => h
  | .tup _, _, h => h
theorem RE.immH {ρ : Env} {σ : St} (E : RE K ρ σ H O) (hi : ρ.all slotImm = true) (k : ∀ b xs, H b = some (.tup xs) → H' b = some (.tup xs)) (ho : ∀ b, O b → H' b = H b) : RE K ρ σ H' O := by
  have at_ : ∀ {i : Nat} {s : Slot}, ρ[i]? = some s → slotImm s = true := fun h => List.all_eq_true.mp hi _ (List.mem_of_getElem? h)
  refine ⟨E.len, fun i d h => ?_, fun i d h => ?_, fun i d h => ?_, E.inj⟩
  · obtain ⟨v, e, q⟩ := E.sh i d h
    exact ⟨v, e, q.immH k (at_ h)⟩
  · obtain ⟨a, e, o, q⟩ := E.ow i d h
    exact ⟨a, e, o, q.immH k (ho a o) (at_ h)⟩
  · obtain ⟨a, e, o, q⟩ := E.lk i d h
    exact ⟨a, e, o, q.immH k (ho a o) (at_ h)⟩
end
section
variable {X : Cx} {W : WX} {f : Ev Val} {ρ ρ0 : Env} {σ : St} {H H0 : Hp} {O O0 : Addr → Prop} {De : Ends}
theorem tV_nxS0 {k : Val → Env → Option (R Fl)} (F : Fr ρ0 σ H0 O0 ρ σ H O) (E : RE X.K ρ σ H O) (h : PostS X W ρ0 σ H0 O0 De (bnd (f ρ) k)) :
    tV X W f σ H fun v H1 => ∃ r ρ1 O1, EPost X.K ρ σ H O r ρ1 v H1 O1 ∧ PostS X W ρ0 σ H0 O0 De (k r ρ1) := by
  refine ⟨ρ, O, E, ?_⟩
  cases q : f ρ with
  | none => rw [q] at h; exact h
  | some m =>
    rw [q] at h
    cases m with
    | er c => exact fun cls d H' x k => h cls d σ H' x (FrX.trans F k)
    | ok r ρ1 => exact fun v H1 O1 P => ⟨r, ρ1, O1, P, h⟩
abbrev tApp (K : PySem.W.Frag) (j : Nat) (i : Int) (ta : TA) : TS := tDrop (tBM K "list" rAppend (tOp (rIxL K) (tVar j) (tC (.int i))) ta)
abbrev tFour (X : Cx) (W : WX) (j : Nat) (fe1 fe2 : Ev Val) (ct : Ev Bool) : TS :=
  tSeq (tAsg (tLst (tCons (tV X W fe1) (tCons (tV X W fe2) tNil))) (gName j)) (tSeq (tIfS (tT X W ct) (tRet (tC (.bl false))) tNext)
    (tSeq (tApp X.K j 0 (tCons (tTup tNil) tNil)) (tApp X.K j 1 (tCons (tC .non) tNil))))
theorem vss_four {j : Nat} {sts : List Stmt} {fe1 fe2 : Ev Val} {ct : Ev Bool} (h : PSs X sts (tFour X W j fe1 fe2 ct)) : VSs X W sts (sFour j fe1 fe2 ct) := ⟨PSs.imp h fun De σ H ⟨ρ, O, E, ph⟩ => by
  refine tV.mono (fun v1 H1 ⟨r1, ρ1, O1, P1, p1⟩ => ?_) (tV_nxS0 Fr.refl E ph)
  refine tV.mono (fun v2 H2 ⟨r2, ρ2, O2, P2, p2⟩ => ?_) (tV_nxS0 P1.fr P1.re p1)
  split at p2
  · rename_i as bs _h
    by_cases hz : as.length + 2 ≤ sizeLine ∧ bs.length + 2 ≤ sizeLine ∧ j < ρ2.length
    · rw [if_pos hz] at p2
      refine ⟨by show 2 ≤ sizeLine; decide, fun p hp => ?_⟩
      -- the two lists, apart
      obtain ⟨a1, e1, o1', nw1', nl1', ob1'⟩ := P1.vr
      have V1 := P1.vr.later P1.re P2.fr
      obtain ⟨a1', e1', o1, nw1, nl1, ob1⟩ := V1
      have ea : a1' = a1 := by rw [e1] at e1'; exact (V.ref.inj e1').symm
      subst ea
      obtain ⟨a2, e2, o2, nw2, nl2, ob2⟩ := P2.vr
      subst e1 e2
      obtain ⟨u1, hu1⟩ := ob1'.ex
      have n12 : a1' ≠ a2 := fun e => by
        rcases P2.og _ a2 rfl rfl with z | z
        · rw [← e, hu1] at z; cases z
        · exact nw1' (by rw [e]; exact z)
      obtain ⟨xs1, hx1, rx1⟩ := ob1
      obtain ⟨xs2, hx2, rx2⟩ := ob2
      have F12 := P1.fr.trans P2.fr
      have np1 : a1' ≠ p := fun e => by rw [e, hp] at hx1; cases hx1
      have np2 : a2 ≠ p := fun e => by rw [e, hp] at hx2; cases hx2
      -- shared from here on
      let Os : Addr → Prop := fun b => O2 b ∧ b ≠ a1' ∧ b ≠ a2 ∧ b ≠ p
      let Hs : Hp := upd H2 p (.lst [.ref a1', .ref a2])
      have ks : Ke H2 Hs O2 Os := ⟨fun b o h _ _ => upd_kp hp b o h, fun b z => .inl z.1⟩
      have nol : ∀ {i : Nat} {b : Addr}, OL ρ2 σ i b → b ≠ a1' ∧ b ≠ a2 ∧ b ≠ p := fun {i b} z => by
        obtain ⟨_, ⟨o, ho⟩, _⟩ := P2.re.ol z
        refine ⟨fun e => ?_, fun e => ?_, fun e => by rw [e, hp] at ho; cases ho⟩
        · subst e
          obtain ⟨⟨d, z | z⟩, e⟩ := z
          · exact nw1 ⟨i, d, z, e⟩
          · exact nl1 ⟨i, d, z, e⟩
        · subst e
          obtain ⟨⟨d, z | z⟩, e⟩ := z
          · exact nw2 ⟨i, d, z, e⟩
          · exact nl2 ⟨i, d, z, e⟩
      have Es : RE X.K ρ2 σ Hs Os := by
        refine ⟨P2.re.len, fun i d h => ?_, fun i d h => ?_, fun i d h => ?_, P2.re.inj⟩
        · obtain ⟨v, e, q⟩ := P2.re.sh i d h
          exact ⟨v, e, q.ke ks⟩
        · obtain ⟨b, e, o, q⟩ := P2.re.ow i d h
          exact ⟨b, e, ⟨o, nol (i := i) ⟨⟨d, .inl h⟩, e⟩⟩, q.ke ks fun o e _ => upd_kp hp b o e⟩
        · obtain ⟨b, e, o, q⟩ := P2.re.lk i d h
          exact ⟨b, e, ⟨o, nol (i := i) ⟨⟨d, .inr h⟩, e⟩⟩, q.ke ks fun o e _ => upd_kp hp b o e⟩
      have old1 : ∀ b o, H b = some o → ¬ Ow ρ σ b → b ≠ a1' ∧ b ≠ a2 ∧ b ≠ p := fun b o h n => by
        refine ⟨fun e => ?_, fun e => ?_, fun e => ?_⟩
        · rcases P1.og _ a1' rfl rfl with z | z
          · rw [← e, h] at z; cases z
          · exact n (by rw [e]; exact z)
        · rcases P2.og _ a2 rfl rfl with z | z
          · obtain ⟨o', h'⟩ := P1.fr.al b o h
            rw [← e, h'] at z; cases z
          · rcases P1.fr.ow a2 z with z | z
            · exact n (by rw [e]; exact z)
            · rw [← e, h] at z; cases z
        · obtain ⟨o', h'⟩ := F12.al b o h
          rw [e, hp] at h'; cases h'
      have Fs : Fr ρ σ H O ρ2 σ Hs Os := ⟨fun b o h t n => by rw [show Hs b = H2 b from upd_ne (old1 b o h n).2.2]; exact F12.kp b o h t n, fun b o h => by
          obtain ⟨o', h'⟩ := F12.al b o h
          exact ⟨o', upd_kp hp b o' h'⟩, fun b z => F12.sk b z.1, fun b o h z n => ⟨F12.st b o h z n, old1 b o h n⟩, F12.ow, F12.lk, F12.z0⟩
      have rp1 : Rp X.K Hs Os (.ref a1') (.lst as) := .lst (.inl (upd_kp hp _ _ hx1)) (fun z => z.2.1 rfl) (rx1.ke ks)
      have rp2 : Rp X.K Hs Os (.ref a2) (.lst bs) := .lst (.inl (upd_kp hp _ _ hx2)) (fun z => z.2.2.1 rfl) (rx2.ke ks)
      have rpp : Rp X.K Hs Os (.ref p) (.lst [.lst as, .lst bs]) := .lst (.inl upd_same) (fun z => z.2.2.2 rfl) (.cons rp1 (.cons rp2 .nil))
      have hj : j < σ.length := by rw [← P2.re.len]; exact hz.2.2
      obtain ⟨E3, F3⟩ := RE.put1 (i := j) (r := .sh (.lst [.lst as, .lst bs])) (s := .sh (.lst [.lst as, .lst bs])) (v := .ref p) Es Fs rpp (fun _ _ e => nomatch e) rfl
      have gj : (σ.set j (some (V.ref p)))[j]? = some (some (V.ref p)) := List.getElem?_set_self hj
      show tIfS (tT X W ct) (tRet (tC (.bl false))) tNext { De with nx := _ } (σ.set j (some (.ref p))) Hs
      refine ⟨ρ2.set j (.sh (.lst [.lst as, .lst bs])), Os, E3, ?_⟩
      cases q : ct (ρ2.set j (.sh (.lst [.lst as, .lst bs]))) with
      | none => rw [q] at p2; exact p2
      | some m =>
        rw [q] at p2
        cases m with
        | er c => exact fun cls d H' x k => p2 cls d _ H' x (FrX.trans F3 k)
        | ok b ρ3 =>
          intro H4 O4 E4 F4
          have p3 : PostS X W ρ σ H O De (if b = true then some (.ok (.rt (.sh (.bl false))) ρ3) else if okRest ρ2 (ρ3.set j .no) = true then some (.ok .nx (ρ3.set j .no)) else none) := p2
          have F34 := F3.trans F4
          cases b with
          | true => exact p3 (.bl false) _ H4 O4 E4 F34 (.bl false) fun _ _ e => nomatch e
          | false =>
            by_cases hi : okRest ρ2 (ρ3.set j .no) = true
            · have p3 : PostS X W ρ σ H O De (if okRest ρ2 (ρ3.set j .no) = true then some (.ok .nx (ρ3.set j .no)) else none) := p3
              rw [if_pos hi] at p3
              -- what the test left of the three objects
              have ol3 : ∀ b, Ow (ρ2.set j (.sh (.lst [.lst as, .lst bs]))) (σ.set j (some (V.ref p))) b → b ≠ a1' ∧ b ≠ a2 ∧ b ≠ p := fun b z => by
                have := E3.owO z
                exact this.2
              have k1 : H4 a1' = some (.lst xs1) := F4.kp a1' _ (upd_kp hp _ _ hx1) nt_lst fun z => (ol3 _ z).1 rfl
              have k2 : H4 a2 = some (.lst xs2) := F4.kp a2 _ (upd_kp hp _ _ hx2) nt_lst fun z => (ol3 _ z).2.1 rfl
              have kp4 : H4 p = some (.lst [.ref a1', .ref a2]) := F4.kp p _ upd_same nt_lst fun z => (ol3 _ z).2.2 rfl
              have no4 : ∀ b, O4 b → b ≠ a1' ∧ b ≠ a2 := fun b z => by
                rcases F4.sk b z with z | z
                · exact ⟨z.2.1, z.2.2.1⟩
                · refine ⟨fun e => ?_, fun e => ?_⟩
                  · rw [e, show Hs a1' = some (.lst xs1) from upd_kp hp _ _ hx1] at z; cases z
                  · rw [e, show Hs a2 = some (.lst xs2) from upd_kp hp _ _ hx2] at z; cases z
              show tApp X.K j 0 (tCons (tTup tNil) tNil) { De with nx := _ } (σ.set j (some (.ref p))) H4
              refine ⟨_, gj, p, _, 0, .ref a1', rfl, rfl, .inl (.inl kp4), rfl, .inl ⟨rfl, xs1, .inl (.inl k1)⟩, ?_⟩
              refine ⟨Nat.zero_le _, fun t ht => ?_⟩
              have na1t : a1' ≠ t := fun e => by rw [e, ht] at k1; cases k1
              have na2t : a2 ≠ t := fun e => by rw [e, ht] at k2; cases k2
              have npt : p ≠ t := fun e => by rw [e, ht] at kp4; cases kp4
              refine ⟨a1', xs1, .ref t, rfl, rfl, by rw [upd_ne na1t]; exact k1, by rw [rx1.length]; omega, ?_⟩
              show tApp X.K j 1 (tCons (tC .non) tNil) De (σ.set j (some (.ref p))) _
              have npa : p ≠ a1' := fun e => np1 e.symm
              refine ⟨_, gj, p, _, 1, .ref a2, rfl, rfl, .inl (.inl (by rw [upd_ne npa, upd_ne npt]; exact kp4)), rfl, .inl ⟨rfl, xs2, .inl (.inl (by rw [upd_ne n12.symm, upd_ne na2t]; exact k2))⟩, ?_⟩
              refine ⟨a2, xs2, .non, rfl, rfl, by rw [upd_ne n12.symm, upd_ne na2t]; exact k2, by rw [rx2.length]; omega, ?_⟩
              -- the end
              let H5 : Hp := upd (upd (upd H4 t (.tup [])) a1' (.lst (xs1 ++ [.ref t]))) a2 (.lst (xs2 ++ [.non]))
              have h5 : ∀ b, b ≠ a1' → b ≠ a2 → ∀ o, H4 b = some o → H5 b = some o := fun b n1 n2 o h => by
                show upd _ a2 _ b = _
                rw [upd_ne n2, upd_ne n1, upd_ne (fun e => by rw [e, ht] at h; cases h)]
                exact h
              obtain ⟨E5, _, _, ol5⟩ := E4.drop j
              have E6 : RE X.K (ρ3.set j .no) (σ.set j (some (V.ref p))) H4 O4 := E5
              have h5t : ∀ b xs, H4 b = some (.tup xs) → H5 b = some (.tup xs) := fun b xs h => h5 b (fun e => by rw [e, k1] at h; cases h) (fun e => by rw [e, k2] at h; cases h) _ h
              have E7 : RE X.K (ρ3.set j .no) (σ.set j (some (V.ref p))) H5 O4 := by
                have at_ : ∀ {i : Nat} {s : Slot}, (ρ3.set j .no)[i]? = some s → slotOk ρ2[i]? (some s) = true := fun h => okRest_at hi h
                refine ⟨E6.len, fun i d h => ?_, fun i d h => ?_, fun i d h => ?_, E6.inj⟩
                · obtain ⟨v, e, q⟩ := E6.sh i d h
                  refine ⟨v, e, ?_⟩
                  have hij : i ≠ j := by
                    rcases get_set h with ⟨_, z⟩ | ⟨n, _⟩
                    · cases z
                    · exact n
                  have e0 : σ[i]? = some (some v) := by rw [← e, List.getElem?_set_ne (Ne.symm hij)]
                  have ok := at_ h
                  unfold slotOk at ok
                  split at ok
                  · rename_i hs; cases hs
                  · -- owned before the test
                    rename_i d0 ds hs2 hs
                    cases hs
                    obtain ⟨b, eb, ob, _⟩ := P2.re.ow i _ hs2
                    rw [e0] at eb; cases eb
                    obtain ⟨n1, n2, _⟩ := nol (i := i) ⟨⟨_, .inl hs2⟩, e0⟩
                    cases q with
                    | lst h1 n h2 =>
                      refine .lst ?_ n (h2.immH h5t ok)
                      rcases h1 with h1 | ⟨o, h1⟩
                      · exact .inl (h5 b n1 n2 _ h1)
                      · exact .inr ⟨o, h5 b n1 n2 _ h1⟩
                    | lstK h1 h2 => exact .lstK h1 (h2.immH h5t ok)
                  · -- shared before
                    rename_i ds0 ds hs2 hs
                    cases hs
                    simp only [Bool.and_eq_true, decide_eq_true_eq] at ok
                    obtain ⟨oe, os⟩ := ok
                    obtain ⟨ks, hks⟩ := Option.isSome_iff_exists.mp os
                    have i1 : immAll ds = true := by rw [asTs_eq hks]; exact imm_tIs ks
                    obtain ⟨v', ev, q0⟩ := P2.re.sh i _ hs2
                    rw [e0] at ev; cases ev
                    have ed : ds0 = ds := by rw [asTs_eq (oe.trans hks), asTs_eq hks]
                    cases q0 with
                    | @lst b xs _ g1 gn g2 =>
                      have n1 : b ≠ a1' := fun z => gn (by rw [z]; exact o1)
                      have n2 : b ≠ a2 := fun z => gn (by rw [z]; exact o2)
                      cases q with
                      | lst h1 n h2 =>
                        refine .lst ?_ n (h2.immH h5t i1)
                        rcases h1 with h1 | ⟨o, h1⟩
                        · exact .inl (h5 b n1 n2 _ h1)
                        · exact .inr ⟨o, h5 b n1 n2 _ h1⟩
                      | lstK h1 h2 => exact .lstK h1 (h2.immH h5t i1)
                    | lstK g1 g2 =>
                      rw [ed] at g2
                      refine .lstK g1 (g2.immH (fun b xs hb => h5t b xs ?_) i1)
                      refine F4.kp b _ (upd_kp hp b _ hb) nt_tup fun z => ?_
                      obtain ⟨w1, _, w2⟩ := E3.ol (z.ol.choose_spec)
                      exact w2 xs (upd_kp hp b _ hb)
                  · rename_i hs _ _; cases hs; exact q.immH h5t ok
                · obtain ⟨b, e, o, q⟩ := E6.ow i d h
                  obtain ⟨u, hu⟩ := q.ex
                  obtain ⟨n1, n2⟩ := no4 b o
                  exact ⟨b, e, o, q.immH h5t (by rw [hu, h5 b n1 n2 u hu]) (slotOk_ow (at_ h))⟩
                · obtain ⟨b, e, o, q⟩ := E6.lk i d h
                  obtain ⟨u, hu⟩ := q.ex
                  obtain ⟨n1, n2⟩ := no4 b o
                  exact ⟨b, e, o, q.immH h5t (by rw [hu, h5 b n1 n2 u hu]) (slotOk_lk (at_ h))⟩
              refine p3 _ H5 O4 E7 ⟨fun b o h t' n => ?_, fun b o h => ?_, F34.sk, F34.st, fun b z => ?_, fun i b z => ?_, fun b z => ?_⟩
              · obtain ⟨n1, n2, _⟩ := old1 b o h n
                exact h5 b n1 n2 o (F34.kp b o h t' n)
              · obtain ⟨o', h'⟩ := F34.al b o h
                by_cases n2 : b = a2
                · rw [n2]; exact ⟨_, upd_same⟩
                · by_cases n1 : b = a1'
                  · refine ⟨.lst (xs1 ++ [.ref t]), ?_⟩
                    show upd _ a2 _ b = _
                    rw [upd_ne n2, n1, upd_same]
                  · exact ⟨o', h5 b n1 n2 o' h'⟩
              · refine F34.ow b ?_
                obtain ⟨i, d, h1, h2⟩ := z
                rcases get_set h1 with ⟨_, e⟩ | ⟨_, h1⟩
                · cases e
                · exact ⟨i, d, h1, h2⟩
              · refine F34.lk i b ?_
                obtain ⟨⟨d, h1⟩, h2⟩ := z
                rcases get_set h1 with ⟨_, e⟩ | ⟨_, h1⟩
                · cases e
                · exact ⟨⟨d, h1⟩, h2⟩
              · exact F34.z0 b (ol5 0 b z).1
            · have p3 : PostS X W ρ σ H O De (if okRest ρ2 (ρ3.set j .no) = true then some (.ok .nx (ρ3.set j .no)) else none) := p3
              rw [if_neg hi] at p3; exact p3.elim
    · rw [if_neg hz] at p2; exact p2.elim
  · exact p2.elim⟩
end
/-! ### the law as the head wants it -/
def spLaw (K : PySem.W.Frag) : Sp := fun vs H Q _ => ∃ (a : Addr) (ns : List Int), vs = [.ref a] ∧ SqL K H a (ns.map V.int) ∧ ns.length ≤ 63 ∧ ∀ H', Q (.bl true) H'
theorem law_imp {P : Program} {w : World} {K : PySem.W.Frag} {mg : Str → Option Value} {base : Heap} {k : Nat} {f : Addr} {fd : FuncData} {ps : List Str} {φ : Fn} (hφ : ∀ ns : List Int, ns.length ≤ 63 → φ [.lst (ns.map .int)] = some (.ok (.sh (.bl true)) .non))
    (F : FnOk P w K mg base (L2.CX P w) k f fd ps (spV K mg 1 φ)) : FnOk P w K mg base (L2.CX P w) k f fd ps (spLaw K) := F.imp fun vs H Q E ⟨a, ns, e, hs, hl, hq⟩ => by
  subst e
  refine ⟨rfl, fun _ => False, [.lst (ns.map .int)], .cons ?_ .nil, ?_⟩
  · rcases hs with hs | hs
    · exact .lst hs (fun z => z) (RpAll.ints.mpr rfl)
    · exact .lstK hs (RpAll.ints.mpr rfl)
  · rw [hφ ns hl]
    intro v H' O' P
    have := P.vr
    cases this
    exact hq H'
/-! ### a name's object shared from here on, the name keeps it -/
def shK (r : Val) (ρ : Env) : Option (D × Env) := match r with
  | .sh d => some (d, ρ)
  | .ow d => some (d, ρ)
  | .bw i => match ρ[i]? with
    | some (Slot.ow d) => some (d, ρ.set i (.sh d))
    | _ => none
def xShK (f : Ev Val) : Ev Val := fun ρ => bnd (f ρ) fun r ρ1 => (shK r ρ1).map fun p => .ok (.sh p.1) p.2
theorem shK_ok {K : PySem.W.Frag} {ρ ρ1 ρ2 : Env} {σ : St} {H H1 : Hp} {O O1 : Addr → Prop} {r : Val} {v : V} {d : D} (P : EPost K ρ σ H O r ρ1 v H1 O1) (t : shK r ρ1 = some (d, ρ2)) : ∃ O2, EPost K ρ σ H O (.sh d) ρ2 v H1 O2 := by
  cases r with
  | sh d' => cases t; exact ⟨O1, P⟩
  | ow d' => cases t; exact share_ok P rfl
  | bw i =>
    have t : (match ρ1[i]? with
      | some (Slot.ow d) => some (d, ρ1.set i (.sh d))
      | _ => none) = some (d, ρ2) := t
    split at t
    · rename_i d' q
      cases t
      have hv : σ[i]? = some (some v) := P.vr
      obtain ⟨a, e1, oa, ob⟩ := P.re.ow i _ q
      rw [hv] at e1; cases e1
      have me : OL ρ1 σ i a := ⟨⟨_, .inl q⟩, hv⟩
      have k : Ke H1 H1 O1 (subO O1 a) := ⟨fun _ _ h _ _ => h, fun b z => .inl z.1⟩
      have old : ∀ {j : Nat} {x : Slot}, (ρ1.set i (.sh d))[j]? = some x → (j = i ∧ x = .sh d) ∨ (j ≠ i ∧ ρ1[j]? = some x) := fun h => get_set h
      have ol : ∀ j b, OL (ρ1.set i (.sh d)) σ j b → OL ρ1 σ j b ∧ j ≠ i := fun j b ⟨⟨d', z⟩, e⟩ => by
        rcases z with z | z
        · rcases old z with ⟨_, w⟩ | ⟨n, w⟩
          · cases w
          · exact ⟨⟨⟨d', .inl w⟩, e⟩, n⟩
        · rcases old z with ⟨_, w⟩ | ⟨n, w⟩
          · cases w
          · exact ⟨⟨⟨d', .inr w⟩, e⟩, n⟩
      have ne : ∀ j b, OL ρ1 σ j b → j ≠ i → b ≠ a := fun j b z n e => by
        subst e
        exact n (P.re.inj j i b z me)
      have rp : Rp K H1 (subO O1 a) (.ref a) d := ob.rp (fun z => z.2 rfl) k
      refine ⟨subO O1 a, ⟨by rw [List.length_set]; exact P.re.len, fun j d' h => ?_, fun j d' h => ?_, fun j d' h => ?_, fun j l b h1 h2 => P.re.inj j l b (ol j b h1).1 (ol l b h2).1⟩, ⟨P.fr.kp, P.fr.al, fun b z => P.fr.sk b z.1, fun b u hu h n => ⟨P.fr.st b u hu h n, fun e => ?_⟩, fun b z => ?_, fun j b z => ?_, fun b z => P.fr.z0 b (ol 0 b z).1⟩, rp, fun _ _ e => nomatch e⟩
      · rcases old h with ⟨e1, e2⟩ | ⟨n, h⟩
        · cases e2
          exact ⟨_, by rw [e1]; exact hv, rp⟩
        · obtain ⟨v, e, q⟩ := P.re.sh j d' h
          exact ⟨v, e, q.ke k⟩
      · rcases old h with ⟨_, e⟩ | ⟨n, h⟩
        · cases e
        · obtain ⟨b, e, o, q⟩ := P.re.ow j d' h
          exact ⟨b, e, ⟨o, ne j b ⟨⟨d', .inl h⟩, e⟩ n⟩, q.ke k fun _ e _ => e⟩
      · rcases old h with ⟨_, e⟩ | ⟨n, h⟩
        · cases e
        · obtain ⟨b, e, o, q⟩ := P.re.lk j d' h
          exact ⟨b, e, ⟨o, ne j b ⟨⟨d', .inr h⟩, e⟩ n⟩, q.ke k fun _ e _ => e⟩
      · subst e
        rcases P.fr.ow b ⟨i, d, q, hv⟩ with z | z
        · exact n z
        · rw [hu] at z; cases z
      · obtain ⟨j, d', h1, h2⟩ := z
        rcases old h1 with ⟨_, e⟩ | ⟨_, h1⟩
        · cases e
        · exact P.fr.ow b ⟨j, d', h1, h2⟩
      · obtain ⟨⟨d', h1⟩, h2⟩ := z
        rcases old h1 with ⟨_, e⟩ | ⟨_, h1⟩
        · cases e
        · exact P.fr.lk j b ⟨⟨d', h1⟩, h2⟩
    · cases t
section
variable {X : Cx} {W : WX} {e : Expr} {es : List Expr} {f : Ev Val}
theorem ve_shK (h : VE X W e f) : VE X W e (xShK f) := h.imp fun σ H Q ⟨ρ, O, E, p⟩ => ⟨ρ, O, E, by
  unfold xShK at p
  cases q : f ρ with
  | none => rw [q] at p; exact p
  | some m =>
    rw [q] at p
    cases m with
    | er c => exact p
    | ok r ρ1 =>
      intro v H1 O1 P
      have p : Post X W ρ σ H O Q ((shK r ρ1).map fun p => .ok (.sh p.1) p.2) := p
      cases t : shK r ρ1 with
      | none => rw [t] at p; exact p.elim
      | some z =>
        obtain ⟨d, ρ2⟩ := z
        rw [t] at p
        obtain ⟨O2, P2⟩ := shK_ok P t
        exact p v H1 O2 P2⟩
theorem va_consK {g : Ev (List D)} (he : VE X W e f) (h : VA X W es g) (hs : starEach (e :: es) X.env = (false, eval e X.env) :: starEach es X.env := by rfl) : VA X W (e :: es) (xCons (xShK f) g) := by
  refine ⟨PA.imp (pa_cons (ve_shK he).pe h.pa hs) fun σ H Q ⟨ρ, O, E, p⟩ => ?_, fun ρ ds ρ' q => ?_⟩
  · refine tV.mono (fun v H1 ⟨r, ρ1, O1, E1, V1, p1⟩ => ?_) (tV_bnd (Rst := fun ρ H O m => PostA X W ρ σ H O Q m) E (fun z => z) (fun c z => z) (fun _ _ _ _ F z => z.step F) p)
    cases r with
    | sh d =>
      have p1 : PostA X W ρ1 σ H1 O1 Q (bnd (g ρ1) fun ds ρ2 => some (.ok (d :: ds) ρ2)) := p1
      refine ⟨ρ1, O1, E1, ?_⟩
      cases q : g ρ1 with
      | none => rw [q] at p1; exact p1
      | some m =>
        rw [q] at p1
        cases m with
        | er c => exact p1
        | ok ds ρ2 => exact fun vs H2 O2 E2 F2 R2 => p1 (v :: vs) H2 O2 E2 F2 (.cons (Rp.ke (F2.ke E1) V1) R2)
    | ow d => exact p1.elim
    | bw i => exact p1.elim
  · unfold xCons at q
    cases q1 : xShK f ρ with
    | none => rw [q1] at q; cases q
    | some m =>
      rw [q1] at q
      cases m with
      | er c => cases q
      | ok r ρ1 =>
        cases r with
        | sh d =>
          have q : bnd (g ρ1) (fun ds ρ2 => some (.ok (d :: ds) ρ2)) = some (.ok ds ρ') := q
          cases q2 : g ρ1 with
          | none => rw [q2] at q; cases q
          | some m =>
            rw [q2] at q
            cases m with
            | er c => cases q
            | ok ds' ρ2 =>
              cases q
              rw [List.length_cons, List.length_cons, h.len _ _ _ q2]
        | ow d => cases q
        | bw i => cases q
end
end Lf

set_option Elab.async false
set_option linter.all false
set_option maxRecDepth 100000
/-! Lf, part Q: what the terms say, read off. -/
namespace Lf
open PySem PySem.Spec L2

theorem resE_same : ∀ {ρ ρ' : Env} {vs : List Nat}, ρ'.length = ρ.length → wipeE ρ' vs = wipeE ρ vs → resE ρ ρ' vs = ρ := fun {ρ ρ' vs} hl h => by
  refine List.ext_getElem? fun j => ?_
  by_cases hj : j ∈ vs
  · by_cases hlt : j < ρ.length
    · have h1 : j < (resE ρ ρ' vs).length := by rw [resE_len]; omega
      have e := resE_in ρ ρ' vs j _ hj (List.getElem?_eq_getElem h1)
      rw [List.getElem?_eq_getElem h1, e, List.getD_eq_getElem?_getD, List.getElem?_eq_getElem hlt]; rfl
    · rw [List.getElem?_eq_none (by rw [resE_len]; omega), List.getElem?_eq_none (by omega)]
  · rw [resE_get ρ ρ' vs j hj, ← wipeE_get ρ' vs j hj, h, wipeE_get ρ vs j hj]
/-- a comprehension whose element and test leave the environment -/
theorem lcF_map {α : Type} {g : Tg} {ct : Ev Bool} {fe : Ev Val} {vs : List Nat} {ρ1 : Env} (inj : α → D) (c : α → Bool) (y : α → D) (En : α → Env) :
    ∀ (xs : List α), (∀ x ∈ xs, g (inj x) (wipeE ρ1 vs) = some (En x)) → (∀ x ∈ xs, ct (En x) = some (.ok (c x) (En x))) → (∀ x ∈ xs, c x = true → xSh fe (En x) = some (.ok (.sh (y x)) (En x))) →
      (∀ x ∈ xs, wipeE (En x) vs = wipeE ρ1 vs ∧ (En x).length = ρ1.length) → ∀ ρ, wipeE ρ vs = wipeE ρ1 vs → ρ.length = ρ1.length → ∃ ρ2, lcF g ct fe vs (xs.map inj) ρ = some (.ok ((xs.filter c).map y) ρ2) ∧ wipeE ρ2 vs = wipeE ρ1 vs ∧ ρ2.length = ρ1.length
  | [], _, _, _, _, ρ, hw, hl => ⟨ρ, rfl, hw, hl⟩
  | x :: xs, hg, hc, hf, hE, ρ, hw, hl => by
    have m : x ∈ x :: xs := List.mem_cons_self
    obtain ⟨e1, e2⟩ := hE x m
    obtain ⟨ρ2, h1, h2, h3⟩ := lcF_map inj c y En xs (fun z hz => hg z (List.mem_cons_of_mem _ hz)) (fun z hz => hc z (List.mem_cons_of_mem _ hz)) (fun z hz => hf z (List.mem_cons_of_mem _ hz)) (fun z hz => hE z (List.mem_cons_of_mem _ hz)) (En x) e1 e2
    refine ⟨ρ2, ?_, h2, h3⟩
    rw [List.map_cons, lcF, hw, hg x m]
    dsimp only
    rw [hc x m]
    cases hcx : c x with
    | true =>
      dsimp only
      rw [hf x m hcx]
      dsimp only
      rw [h1, List.filter_cons, if_pos hcx, List.map_cons]
    | false =>
      dsimp only
      rw [h1, List.filter_cons, if_neg (by rw [hcx]; simp)]
theorem lc_map {α : Type} {fi : Ev Itm} {g : Tg} {ct : Ev Bool} {fe : Ev Val} {vs : List Nat} {ρ ρ1 : Env} {u : Option Nat} {dc : Bool} (inj : α → D) (xs : List α) (c : α → Bool) (y : α → D) (En : α → Env)
    (hi : fi ρ = some (.ok ⟨xs.map inj, u, dc⟩ ρ1)) (hv : vs.all (fun i => flatSlot ρ1[i]?) = true) (hg : ∀ x ∈ xs, g (inj x) (wipeE ρ1 vs) = some (En x)) (hc : ∀ x ∈ xs, ct (En x) = some (.ok (c x) (En x)))
    (hf : ∀ x ∈ xs, c x = true → xSh fe (En x) = some (.ok (.sh (y x)) (En x))) (hE : ∀ x ∈ xs, wipeE (En x) vs = wipeE ρ1 vs ∧ (En x).length = ρ1.length) : xLc fi g ct fe vs ρ = some (.ok (.ow (.lst ((xs.filter c).map y))) (unl u ρ1)) := by
  obtain ⟨ρ2, h1, h2, h3⟩ := lcF_map inj c y En xs hg hc hf hE ρ1 rfl rfl
  unfold xLc
  rw [hi]
  show (if vs.all (fun i => flatSlot ρ1[i]?) = true then (match lcF g ct fe vs (xs.map inj) ρ1 with
    | some (R.ok ys ρ2) => some (R.ok (Val.ow (.lst ys)) (unl u (resE ρ1 ρ2 vs)))
    | _ => none) else none) = _
  rw [if_pos hv, h1]
  dsimp only
  rw [resE_same h3 h2]
/-- .. without a test -/
theorem lc_all {α : Type} {fi : Ev Itm} {g : Tg} {fe : Ev Val} {vs : List Nat} {ρ ρ1 : Env} {u : Option Nat} {dc : Bool} (inj : α → D) (xs : List α) (y : α → D) (En : α → Env)
    (hi : fi ρ = some (.ok ⟨xs.map inj, u, dc⟩ ρ1)) (hv : vs.all (fun i => flatSlot ρ1[i]?) = true) (hg : ∀ x ∈ xs, g (inj x) (wipeE ρ1 vs) = some (En x))
    (hf : ∀ x ∈ xs, xSh fe (En x) = some (.ok (.sh (y x)) (En x))) (hE : ∀ x ∈ xs, wipeE (En x) vs = wipeE ρ1 vs ∧ (En x).length = ρ1.length) : xLc fi g xYes fe vs ρ = some (.ok (.ow (.lst (xs.map y))) (unl u ρ1)) := by
  have := lc_map (fe := fe) (ct := xYes) inj xs (fun _ => true) y En hi hv hg (fun x _ => rfl) (fun x hx _ => hf x hx) hE
  rw [List.filter_eq_self.mpr fun _ _ => rfl] at this
  exact this
/-- a for by an invariant -/
theorem for_inv {α : Type} {dc : Bool} {g : Tg} {fb : Ev Fl} (inj : α → D) (I : List α → Env → Prop) {full : List α} : ∀ (xs dn : List α) (ρ : Env), full = dn ++ xs → I dn ρ →
    (∀ dn x rest ρ, full = dn ++ x :: rest → I dn ρ → ∃ ρ1 ρ2, g (inj x) ρ = some ρ1 ∧ fb ρ1 = some (.ok .nx ρ2) ∧ I (dn ++ [x]) ρ2) → ∃ ρ', forF dc g fb (xs.map inj) ρ = some (.ok .nx ρ') ∧ I full ρ'
  | [], dn, ρ, hf, h, _ => ⟨ρ, rfl, by rw [hf, List.append_nil]; exact h⟩
  | x :: xs, dn, ρ, hf, h, hs => by
    obtain ⟨ρ1, ρ2, h1, h2, h3⟩ := hs dn x xs ρ hf h
    obtain ⟨ρ', h4, h5⟩ := for_inv (dc := dc) (fb := fb) (g := g) inj I xs (dn ++ [x]) ρ2 (by rw [hf, List.append_assoc]; rfl) h3 hs
    refine ⟨ρ', ?_, h5⟩
    rw [List.map_cons, forF, h1]
    dsimp only
    rw [h2]
    dsimp only
    exact h4
/-- .. that may give back early -/
theorem for_ret {α : Type} {dc : Bool} {g : Tg} {fb : Ev Fl} (inj : α → D) (I : List α → Env → Prop) (R' : Val → Prop) : ∀ (xs dn : List α) (ρ : Env), I dn ρ →
    (∀ dn x ρ, x ∈ xs → I dn ρ → ∃ ρ1 ρ2, g (inj x) ρ = some ρ1 ∧ ((fb ρ1 = some (.ok .nx ρ2) ∧ I (dn ++ [x]) ρ2) ∨ ∃ r, fb ρ1 = some (.ok (.rt r) ρ2) ∧ R' r)) →
    ∃ ρ', (forF dc g fb (xs.map inj) ρ = some (.ok .nx ρ') ∧ I (dn ++ xs) ρ') ∨ ∃ r, forF dc g fb (xs.map inj) ρ = some (.ok (.rt r) ρ') ∧ R' r
  | [], dn, ρ, h, _ => ⟨ρ, .inl ⟨rfl, by rw [List.append_nil]; exact h⟩⟩
  | x :: xs, dn, ρ, h, hs => by
    obtain ⟨ρ1, ρ2, h1, h2⟩ := hs dn x ρ List.mem_cons_self h
    rw [List.map_cons, forF, h1]
    dsimp only
    rcases h2 with ⟨h2, h3⟩ | ⟨r, h2, h3⟩
    · rw [h2]
      dsimp only
      obtain ⟨ρ', h4⟩ := for_ret (dc := dc) (fb := fb) (g := g) inj I R' xs (dn ++ [x]) ρ2 h3 fun dn z ρ hz => hs dn z ρ (List.mem_cons_of_mem _ hz)
      rw [List.append_assoc] at h4
      exact ⟨ρ', h4⟩
    · rw [h2]
      dsimp only
      exact ⟨ρ2, .inr ⟨r, rfl, h3⟩⟩
theorem for_eq {fi : Ev Itm} {g : Tg} {fb : Ev Fl} {ρ ρ1 ρ2 : Env} {ds : List D} {u : Option Nat} {dc : Bool} (hi : fi ρ = some (.ok ⟨ds, u, dc⟩ ρ1)) (hf : forF dc g fb ds ρ1 = some (.ok .nx ρ2)) : sFor fi g fb ρ = some (.ok .nx (unl u ρ2)) := by
  unfold sFor
  rw [hi]
  show (match forF dc g fb ds ρ1 with
    | none => none
    | some (R.er c) => some (R.er c)
    | some (R.ok Fl.nx ρ2) => some (R.ok Fl.nx (unl u ρ2))
    | some (R.ok (Fl.rt r) ρ2) => match slotOf r with
      | none => none
      | some _ => some (R.ok (Fl.rt r) (unl u ρ2))) = _
  rw [hf]

/-! ### == of plain data -/
theorem toPs_int : ∀ ns : List Int, toPs (ns.map .int) = some (ns.map .int)
  | [] => by simp [toPs]
  | n :: ns => by simp [toPs, toP, toPs_int ns]
theorem toP_tI (ns : List Int) : toP (dTI ns) = some (.tuple (ns.map .int)) := by
  unfold dTI toP
  rw [toPs_int]; rfl
theorem eqvAll_int : ∀ a b : List Int, PyData.eqvAll (a.map .int) (b.map .int) = decide (a = b)
  | [], [] => by simp [PyData.eqvAll]
  | [], _ :: _ => by simp [PyData.eqvAll]
  | _ :: _, [] => by simp [PyData.eqvAll]
  | x :: a, y :: b => by
    rw [List.map_cons, List.map_cons, PyData.eqvAll, eqvAll_int a b]
    show ((x == y) && decide (a = b)) = _
    by_cases h : x = y
    · subst h; simp
    · simp [h]
theorem lay_int : ∀ a : List Int, PyData.canLayAll0 (a.map .int) = true
  | [] => by simp [PyData.canLayAll0]
  | x :: a => by simp [PyData.canLayAll0, PyData.canLay0, lay_int a]
theorem dep_int : ∀ a : List Int, PyData.depthAll (a.map .int) = 0
  | [] => by simp [PyData.depthAll]
  | x :: a => by simp [PyData.depthAll, PyData.depth, dep_int a]
theorem shaped_tI (a : List Int) : SeqAt.shaped (.tuple (a.map .int)) = true := by
  simp [SeqAt.shaped, PyData.canLay0, lay_int a, PyData.depth, dep_int a]
theorem eqD_tI (a b : List Int) : eqD (dTI a) (dTI b) = some (decide (a = b)) := by
  unfold eqD
  rw [toP_tI, toP_tI]
  show (if SeqAt.shaped (.tuple (a.map .int)) = true ∧ SeqAt.shaped (.tuple (b.map .int)) = true then some (PyData.eqv (.tuple (a.map .int)) (.tuple (b.map .int))) else none) = _
  rw [if_pos ⟨shaped_tI a, shaped_tI b⟩, PyData.eqv, eqvAll_int]
theorem eqD_int (a b : Int) : eqD (.int a) (.int b) = some (a == b) := by
  unfold eqD toP
  show (if SeqAt.shaped (.int a) = true ∧ SeqAt.shaped (.int b) = true then some (PyData.eqv (.int a) (.int b)) else none) = _
  rw [if_pos ⟨by simp [SeqAt.shaped, PyData.canLay0, PyData.depth], by simp [SeqAt.shaped, PyData.canLay0, PyData.depth]⟩, PyData.eqv]
theorem toPs_tI : ∀ ks : List (List Int), toPs (ks.map dTI) = some (ks.map fun k => .tuple (k.map .int))
  | [] => by simp [toPs]
  | k :: ks => by simp [toPs, toP_tI, toPs_tI ks]
theorem lay_tI : ∀ ks : List (List Int), PyData.canLayAll0 (ks.map fun k => .tuple (k.map .int)) = true
  | [] => by simp [PyData.canLayAll0]
  | x :: a => by simp [PyData.canLayAll0, PyData.canLay0, lay_int, lay_tI a]
theorem dep_tI : ∀ ks : List (List Int), PyData.depthAll (ks.map fun k => .tuple (k.map .int)) ≤ 1
  | [] => by simp [PyData.depthAll]
  | x :: a => by
    have := dep_tI a
    simp only [List.map_cons, PyData.depthAll, PyData.depth, dep_int]
    omega
theorem shapedL_int (a : List Int) : SeqAt.shaped (.list (a.map .int)) = true := by
  simp [SeqAt.shaped, PyData.canLay0, lay_int a, PyData.depth, dep_int a]
theorem shapedL_tI (ks : List (List Int)) : SeqAt.shaped (.list (ks.map fun k => .tuple (k.map .int))) = true := by
  have := dep_tI ks
  unfold SeqAt.shaped
  rw [PyData.canLay0, lay_tI ks, PyData.depth, Bool.true_and]
  exact decide_eq_true (by omega)
theorem shaped_int (a : Int) : SeqAt.shaped (.int a) = true := by simp [SeqAt.shaped, PyData.canLay0, PyData.depth]
theorem any_int (a : Int) : ∀ ns : List Int, (ns.map PyData.int).any (fun z => PyData.eqv z (.int a)) = decide (a ∈ ns)
  | [] => by simp
  | n :: ns => by
    rw [List.map_cons, List.any_cons, any_int a ns]
    show ((n == a) || decide (a ∈ ns)) = _
    by_cases h : n = a
    · subst h; simp
    · have : ¬ a = n := fun e => h e.symm
      simp [h, this]
theorem any_tI (a : List Int) : ∀ ks : List (List Int), (ks.map fun k => PyData.tuple (k.map .int)).any (fun z => PyData.eqv z (.tuple (a.map .int))) = decide (a ∈ ks)
  | [] => by simp
  | n :: ns => by
    rw [List.map_cons, List.any_cons, any_tI a ns]
    show (PyData.eqv (.tuple (n.map .int)) (.tuple (a.map .int)) || decide (a ∈ ns)) = _
    rw [PyData.eqv, eqvAll_int]
    by_cases h : n = a
    · subst h; simp
    · have : ¬ a = n := fun e => h e.symm
      simp [h, this]
theorem inD_t (a : Int) (ns : List Int) : inD (.int a) (dTI ns) = some (decide (a ∈ ns)) := by
  unfold inD dTI
  dsimp only
  rw [toPs_int]
  show (if SeqAt.shaped (.int a) = true ∧ SeqAt.shaped (.list (ns.map .int)) = true then some ((ns.map PyData.int).any fun z => PyData.eqv z (.int a)) else none) = _
  rw [if_pos ⟨shaped_int a, shapedL_int ns⟩, any_int]
theorem inD_l (a : Int) (ns : List Int) : inD (.int a) (.lst (ns.map .int)) = some (decide (a ∈ ns)) := by
  unfold inD
  dsimp only
  rw [toPs_int]
  show (if SeqAt.shaped (.int a) = true ∧ SeqAt.shaped (.list (ns.map .int)) = true then some ((ns.map PyData.int).any fun z => PyData.eqv z (.int a)) else none) = _
  rw [if_pos ⟨shaped_int a, shapedL_int ns⟩, any_int]
theorem inD_tl (a : List Int) (ks : List (List Int)) : inD (dTI a) (.lst (ks.map dTI)) = some (decide (a ∈ ks)) := by
  unfold inD
  dsimp only
  rw [toPs_tI, toP_tI]
  show (if SeqAt.shaped (.tuple (a.map .int)) = true ∧ SeqAt.shaped (.list (ks.map fun k => .tuple (k.map .int))) = true then some ((ks.map fun k => PyData.tuple (k.map .int)).any fun z => PyData.eqv z (.tuple (a.map .int))) else none) = _
  rw [if_pos ⟨shaped_tI a, shapedL_tI ks⟩, any_tI]
theorem inD_tt (a : List Int) (ks : List (List Int)) : inD (dTI a) (.tup (ks.map dTI)) = some (decide (a ∈ ks)) := by
  unfold inD
  dsimp only
  rw [toPs_tI, toP_tI]
  show (if SeqAt.shaped (.tuple (a.map .int)) = true ∧ SeqAt.shaped (.list (ks.map fun k => .tuple (k.map .int))) = true then some ((ks.map fun k => PyData.tuple (k.map .int)).any fun z => PyData.eqv z (.tuple (a.map .int))) else none) = _
  rw [if_pos ⟨shaped_tI a, shapedL_tI ks⟩, any_tI]

/-! ### rules of reckoning (for simp) -/
section
variable {α β : Type} {ρ : Env} {f fa fb fc : Ev Val} {g h : Ev Fl} {c c' : Ev Bool} {fs : Ev (List Val)} {fd : Ev (List D)}
@[simp] theorem q_bnd {a : α} {k : α → Env → Option (R β)} : bnd (some (.ok a ρ)) k = k a ρ := rfl
@[simp] theorem q_var {i : Nat} : xVar i ρ = (match ρ[i]? with
  | some (Slot.sh d) => some (.ok (.sh d) ρ)
  | some (Slot.ow _) => some (.ok (.bw i) ρ)
  | some (Slot.lk _) => some (.ok (.bw i) ρ)
  | _ => none) := rfl
@[simp] theorem q_c {d : D} : xC d ρ = some (.ok (.sh d) ρ) := rfl
@[simp] theorem q_rd_sh {d : D} : rd ρ (.sh d) = some d := rfl
@[simp] theorem q_rd_ow {d : D} : rd ρ (.ow d) = some d := rfl
@[simp] theorem q_rd_bw {i : Nat} : rd ρ (.bw i) = (match ρ[i]? with
  | some (Slot.ow d) => some d
  | some (Slot.lk d) => some d
  | _ => none) := rfl
@[simp] theorem q_tk_sh {d : D} : take (.sh d) ρ = some (.sh d, ρ) := rfl
@[simp] theorem q_tk_ow {d : D} : take (.ow d) ρ = some (.ow d, ρ) := rfl
@[simp] theorem q_tk_bw {i : Nat} : take (.bw i) ρ = (match ρ[i]? with
  | some (Slot.ow d) => some (.ow d, ρ.set i .no)
  | _ => none) := rfl
@[simp] theorem q_dat_sh {d : D} : dat (.sh d) = some d := rfl
@[simp] theorem q_dat_ow {d : D} : dat (.ow d) = some d := rfl
@[simp] theorem q_xTk : xTk f ρ = bnd (f ρ) fun r ρ1 => (take r ρ1).map fun p => .ok p.1 p.2 := rfl
@[simp] theorem q_xSh : xSh f ρ = bnd (f ρ) fun r ρ1 => (take r ρ1).bind fun p => (dat p.1).map fun d => .ok (.sh d) p.2 := rfl
@[simp] theorem q_bin {G : D → D → Option Val} : xBin G fa fb ρ = bnd (fa ρ) fun x ρ1 => bnd (fb ρ1) fun y ρ2 => fin2 G x y ρ2 := rfl
@[simp] theorem q_fin2 {G : D → D → Option Val} {x y : Val} : fin2 G x y ρ = (rd ρ x).bind fun dx => (rd ρ y).bind fun dy => (G dx dy).map fun r => .ok r ρ := rfl
@[simp] theorem q_un {G : D → Option Val} : xUn G fa ρ = bnd (fa ρ) fun x ρ1 => (rd ρ1 x).bind fun dx => (G dx).map fun r => .ok r ρ1 := rfl
@[simp] theorem q_pure {G : List D → Option Val} : xPure G fs ρ = bnd (fs ρ) fun rs ρ1 => (rdAll ρ1 rs).bind fun ds => (G ds).map fun r => .ok r ρ1 := rfl
@[simp] theorem q_rdA0 : rdAll ρ [] = some [] := rfl
@[simp] theorem q_rdA {r : Val} {rs : List Val} : rdAll ρ (r :: rs) = (rd ρ r).bind fun d => (rdAll ρ rs).map fun ds => d :: ds := rfl
@[simp] theorem q_yN : yNil ρ = some (.ok [] ρ) := rfl
@[simp] theorem q_yC : yCons f fs ρ = bnd (f ρ) fun r ρ1 => bnd (fs ρ1) fun rs ρ2 => some (.ok (r :: rs) ρ2) := rfl
@[simp] theorem q_xN : xNil ρ = some (.ok [] ρ) := rfl
@[simp] theorem q_xC {d : D} {e : Ev Val} (he : e ρ = some (.ok (.sh d) ρ)) : xCons e fd ρ = bnd (fd ρ) fun ds ρ2 => some (.ok (d :: ds) ρ2) := by
  unfold xCons
  rw [he]; rfl
@[simp] theorem q_tup : xTup fd ρ = bnd (fd ρ) fun ds ρ1 => some (.ok (.sh (.tup ds)) ρ1) := rfl
@[simp] theorem q_lst : xLst fd ρ = bnd (fd ρ) fun ds ρ1 => some (.ok (.ow (.lst ds)) ρ1) := rfl
@[simp] theorem q_andV : xAndV fa fb ρ = bnd (fa ρ) fun x ρ1 => (isBl x ρ1).bind fun c => if c = true then fb ρ1 else some (.ok (.sh (.bl false)) ρ1) := rfl
@[simp] theorem q_orV : xOrV fa fb ρ = bnd (fa ρ) fun x ρ1 => (isBl x ρ1).bind fun c => if c = true then some (.ok (.sh (.bl true)) ρ1) else fb ρ1 := rfl
@[simp] theorem q_notV : xNotV fa ρ = bnd (fa ρ) fun x ρ1 => (isBl x ρ1).bind fun c => some (.ok (.sh (.bl (!c))) ρ1) := rfl
@[simp] theorem q_isBl {b : Bool} : isBl (.sh (.bl b)) ρ = some b := rfl
@[simp] theorem q_ifV : xIf c fa fb ρ = bnd (c ρ) fun b ρ1 => if b = true then fa ρ1 else fb ρ1 := rfl
@[simp] theorem q_cmpT {G : D → D → Option Val} : xCmpT G fa fb ρ = bnd (fa ρ) fun x ρ1 => bnd (fb ρ1) fun y ρ2 => (rd ρ2 x).bind fun dx => (rd ρ2 y).bind fun dy => (G dx dy).bind fun r => asBl ρ2 r := rfl
@[simp] theorem q_asBl {b : Bool} : asBl ρ (.sh (.bl b)) = some (.ok b ρ) := rfl
@[simp] theorem q_tr : xTr f ρ = bnd (f ρ) fun x ρ1 => (rd ρ1 x).bind fun d => (tru d).map fun b => .ok b ρ1 := rfl
@[simp] theorem q_tru_b {b : Bool} : tru (.bl b) = some b := rfl
@[simp] theorem q_tru_i {i : Int} : tru (.int i) = some (i != 0) := rfl
@[simp] theorem q_xB : xB f ρ = bnd (f ρ) fun r ρ1 => asBl ρ1 r := rfl
@[simp] theorem q_chain {G G' : D → D → Option Val} : xChain G G' fa fb fc ρ = bnd (fa ρ) fun x ρ1 => bnd (fb ρ1) fun y ρ2 => (rd ρ2 x).bind fun dx => (rd ρ2 y).bind fun dy => match G dx dy with
  | some (.sh (.bl true)) => bnd (fc ρ2) fun z ρ3 => fin2 G' y z ρ3
  | some (.sh (.bl false)) => some (.ok (.sh (.bl false)) ρ2)
  | _ => none := rfl
@[simp] theorem q_isi {B : String → Option Bool} : xIsi B f ρ = bnd (f ρ) fun x ρ1 => (rd ρ1 x).bind fun d => (tyD d).bind fun t => (B t).map fun k => .ok (.sh (.bl k)) ρ1 := rfl
@[simp] theorem q_call {φ : Fn} : xCall φ fs ρ = bnd (fs ρ) fun rs ρ1 => (argD ρ1 rs).bind fun ds => match φ ds with
  | none => none
  | some (.er c) => some (.er c)
  | some (.ok r _) => if okRes (rs.any isBw) r = true then some (.ok r ρ1) else none := rfl
@[simp] theorem q_ar0 : argD ρ [] = some [] := rfl
@[simp] theorem q_ar1 {d : D} {rs : List Val} : argD ρ (.sh d :: rs) = (argD ρ rs).map fun ds => d :: ds := rfl
@[simp] theorem q_ar2 {i : Nat} {rs : List Val} : argD ρ (.bw i :: rs) = (rd ρ (.bw i)).bind fun d => (argD ρ rs).map fun ds => d :: ds := rfl
@[simp] theorem q_bw0 {d : D} : isBw (.sh d) = false := rfl
@[simp] theorem q_bw1 {i : Nat} : isBw (.bw i) = true := rfl
@[simp] theorem q_ok0 {d : D} : okRes false (.sh d) = true := rfl
@[simp] theorem q_ok1 {d : D} : okRes false (.ow d) = true := rfl
@[simp] theorem q_ok2 {b : Bool} {k : Bool} : okRes k (.sh (.bl b)) = true := by cases k <;> rfl
@[simp] theorem q_ok3 {i : Int} {k : Bool} : okRes k (.sh (.int i)) = true := by cases k <;> rfl
@[simp] theorem q_ln : xLn f ρ = bnd (f ρ) fun r ρ1 => match r with
  | .ow d => some (.ok (.sh d) ρ1)
  | r => some (.ok r ρ1) := rfl
@[simp] theorem q_not : xNot c ρ = bnd (c ρ) fun b ρ1 => some (.ok (!b) ρ1) := rfl
@[simp] theorem q_and : xAnd c c' ρ = bnd (c ρ) fun b ρ1 => if b = true then c' ρ1 else some (.ok false ρ1) := rfl
@[simp] theorem q_or : xOr c c' ρ = bnd (c ρ) fun b ρ1 => if b = true then some (.ok true ρ1) else c' ρ1 := rfl
@[simp] theorem q_ret : sRet f ρ = bnd (xTk f ρ) fun r ρ1 => some (.ok (.rt r) ρ1) := rfl
@[simp] theorem q_seq : sSeq g h ρ = bnd (g ρ) fun fl ρ1 => match fl with
  | .nx => h ρ1
  | .rt r => some (.ok (.rt r) ρ1) := rfl
@[simp] theorem q_skip : sSkip ρ = some (.ok .nx ρ) := rfl
@[simp] theorem q_do : sDo f ρ = bnd (f ρ) fun _ ρ1 => some (.ok .nx ρ1) := rfl
@[simp] theorem q_if : sIf c g h ρ = bnd (c ρ) fun b ρ1 => if b = true then g ρ1 else h ρ1 := rfl
@[simp] theorem q_set {i : Nat} : sSet i f ρ = bnd (xTk f ρ) fun r ρ1 => (slotAt i r).map fun s => .ok .nx (ρ1.set i s) := rfl
@[simp] theorem q_sl_sh {i : Nat} {d : D} : slotAt i (.sh d) = some (.sh d) := rfl
@[simp] theorem q_sl_ow {i : Nat} {d : D} : slotAt (i + 1) (.ow d) = some (.ow d) := rfl
@[simp] theorem q_it : xIt f ρ = bnd (f ρ) fun r ρ1 => (lockV r ρ1).bind fun z => (itemsOf z.1).map fun p => .ok ⟨p.1, z.2.1, p.2⟩ z.2.2 := rfl
@[simp] theorem q_lk0 {d : D} : lockV (.sh d) ρ = some (d, none, ρ) := rfl
@[simp] theorem q_lk1 {d : D} : lockV (.ow d) ρ = some (d, none, ρ) := rfl
@[simp] theorem q_lk2 {i : Nat} : lockV (.bw i) ρ = (match ρ[i]? with
  | some (Slot.ow d) => some (d, some i, ρ.set i (.lk d))
  | some (Slot.lk d) => some (d, none, ρ)
  | _ => none) := rfl
@[simp] theorem q_i0 {ds : List D} : itemsOf (.lst ds) = some (ds, false) := rfl
@[simp] theorem q_i1 {ds : List D} : itemsOf (.tup ds) = some (ds, false) := rfl
@[simp] theorem q_gN {i : Nat} {d : D} : gN i d ρ = some (ρ.set i (.sh d)) := rfl
@[simp] theorem q_unl0 : unl none ρ = ρ := rfl
theorem runF_eq {N n : Nat} {ds : List D} {fB : Ev Fl} {r : Val} {ρ' : Env} (h1 : ds.length = n) (h : fB (envOf ds N) = some (.ok (.rt r) ρ')) : runF N n fB ds = retR r .non := by
  unfold runF
  rw [if_pos h1, h]
theorem run_sh {N n : Nat} {ds : List D} {fB : Ev Fl} {d : D} (h1 : ds.length = n) (ρ' : Env) (h : fB (envOf ds N) = some (.ok (.rt (.sh d)) ρ')) : runF N n fB ds = some (.ok (.sh d) .non) := runF_eq h1 h
theorem run_ow {N n : Nat} {ds : List D} {fB : Ev Fl} {d : D} (h1 : ds.length = n) (ρ' : Env) (h : fB (envOf ds N) = some (.ok (.rt (.ow d)) ρ')) : runF N n fB ds = some (.ok (.ow d) .non) := runF_eq h1 h
theorem runF_nx {N n : Nat} {ds : List D} {fB : Ev Fl} {ρ' : Env} (h1 : ds.length = n) (h : fB (envOf ds N) = some (.ok .nx ρ')) : runF N n fB ds = some (.ok (.sh .non) .non) := by
  unfold runF
  rw [if_pos h1, h]
end
/-! ### types -/
@[simp] theorem kb_1 : kitB "int" "int" = some true := by decide +kernel
@[simp] theorem kb_2 : kitB "int" "bool" = some false := by decide +kernel
@[simp] theorem kb_3 : kitB "int" "tuple" = some false := by decide +kernel
@[simp] theorem kb_4 : kitB "int" "list" = some false := by decide +kernel
@[simp] theorem kb_5 : kitB "int" "str" = some false := by decide +kernel
@[simp] theorem kb_6 : kitB "bool" "int" = some true := by decide +kernel
@[simp] theorem kb_7 : kitB "bool" "bool" = some true := by decide +kernel
@[simp] theorem kb_8 : kitB "bool" "tuple" = some false := by decide +kernel
@[simp] theorem kb_9 : kitB "bool" "list" = some false := by decide +kernel
@[simp] theorem kb_10 : kitB "bool" "str" = some false := by decide +kernel
@[simp] theorem kb_11 : kitB "tuple" "int" = some false := by decide +kernel
@[simp] theorem kb_12 : kitB "tuple" "bool" = some false := by decide +kernel
@[simp] theorem kb_13 : kitB "tuple" "tuple" = some true := by decide +kernel
@[simp] theorem kb_14 : kitB "tuple" "list" = some false := by decide +kernel
@[simp] theorem kb_15 : kitB "tuple" "str" = some false := by decide +kernel
@[simp] theorem kb_16 : kitB "list" "int" = some false := by decide +kernel
@[simp] theorem kb_17 : kitB "list" "bool" = some false := by decide +kernel
@[simp] theorem kb_18 : kitB "list" "tuple" = some false := by decide +kernel
@[simp] theorem kb_19 : kitB "list" "list" = some true := by decide +kernel
@[simp] theorem kb_20 : kitB "list" "str" = some false := by decide +kernel
@[simp] theorem kb_21 : kitB "str" "int" = some false := by decide +kernel
@[simp] theorem kb_22 : kitB "str" "bool" = some false := by decide +kernel
@[simp] theorem kb_23 : kitB "str" "tuple" = some false := by decide +kernel
@[simp] theorem kb_24 : kitB "str" "list" = some false := by decide +kernel
@[simp] theorem kb_25 : kitB "str" "str" = some true := by decide +kernel
@[simp] theorem ty_1 {i : Int} : tyD (.int i) = some "int" := rfl
@[simp] theorem ty_2 {i : Bool} : tyD (.bl i) = some "bool" := rfl
@[simp] theorem ty_3 {i : List D} : tyD (.tup i) = some "tuple" := rfl
@[simp] theorem ty_4 {i : List D} : tyD (.lst i) = some "list" := rfl
@[simp] theorem ty_5 {i : Str} : tyD (.str i) = some "str" := rfl
@[simp] theorem ty_6 {i : List Int} : tyD (dTI i) = some "tuple" := rfl
theorem asBs_map {α : Type} (f : α → Bool) (xs : List α) : asBs (xs.map fun x => D.bl (f x)) = some (xs.map f) := by
  rw [show (xs.map fun x => D.bl (f x)) = (xs.map f).map D.bl by rw [List.map_map]; rfl, asBs_bl]
theorem gAll_map {α : Type} (f : α → Bool) (xs : List α) : gAll [.lst (xs.map fun x => D.bl (f x))] = some (.sh (.bl (xs.all f))) := by
  show (asBs (xs.map fun x => D.bl (f x))).map (fun bs => Val.sh (.bl (bs.all id))) = _
  rw [asBs_map, Option.map_some, List.all_map]; rfl
theorem gAny_map {α : Type} (f : α → Bool) (xs : List α) : gAny [.lst (xs.map fun x => D.bl (f x))] = some (.sh (.bl (xs.any f))) := by
  show (asBs (xs.map fun x => D.bl (f x))).map (fun bs => Val.sh (.bl (bs.any id))) = _
  rw [asBs_map, Option.map_some, List.any_map]; rfl
theorem gIn_t (a : Int) (ns : List Int) : gIn (.int a) (dTI ns) = some (.sh (.bl (decide (a ∈ ns)))) := by unfold gIn; rw [inD_t]; rfl
theorem gNin_t (a : Int) (ns : List Int) : gNin (.int a) (dTI ns) = some (.sh (.bl (!decide (a ∈ ns)))) := by unfold gNin; rw [inD_t]; rfl
theorem gNin_l (a : Int) (ns : List Int) : gNin (.int a) (.lst (ns.map .int)) = some (.sh (.bl (!decide (a ∈ ns)))) := by unfold gNin; rw [inD_l]; rfl
theorem gIn_tl (a : List Int) (ks : List (List Int)) : gIn (dTI a) (.lst (ks.map dTI)) = some (.sh (.bl (decide (a ∈ ks)))) := by unfold gIn; rw [inD_tl]; rfl
theorem gNin_tl (a : List Int) (ks : List (List Int)) : gNin (dTI a) (.lst (ks.map dTI)) = some (.sh (.bl (!decide (a ∈ ks)))) := by unfold gNin; rw [inD_tl]; rfl
theorem gEq_int (a b : Int) : gEq (.int a) (.int b) = some (.sh (.bl (a == b))) := by unfold gEq; rw [eqD_int]; rfl
theorem gNe_int (a b : Int) : gNe (.int a) (.int b) = some (.sh (.bl (!(a == b)))) := by unfold gNe; rw [eqD_int]; rfl
theorem gEq_tI (a b : List Int) : gEq (dTI a) (dTI b) = some (.sh (.bl (decide (a = b)))) := by unfold gEq; rw [eqD_tI]; rfl
end Lf

set_option Elab.async false
set_option linter.all false
set_option maxRecDepth 100000
/-! Lf, part R: dicts by their keys; lots as numbers of bits. -/
namespace Lf
open PySem PySem.Spec L2

section
variable {κ : Type} [DecidableEq κ]
/-- keys once each, values ints -/
structure KD (kvs : List (κ × V)) : Prop where
  nd : (kvs.map (·.1)).Nodup
  vi : ∀ p ∈ kvs, ∃ i : Int, p.2 = V.int i
theorem valV_none {kvs : List (κ × V)} {k : κ} : valV kvs k = none ↔ k ∉ kvs.map (·.1) := by
  induction kvs with
  | nil => simp [valV]
  | cons p kvs ih =>
    by_cases e : p.1 = k
    · rw [valV_pos e]
      simp [e]
    · rw [valV_neg e, ih]
      simp only [List.map_cons, List.mem_cons, not_or]
      exact ⟨fun h => ⟨fun z => e z.symm, h⟩, fun h => h.2⟩
theorem valV_some {kvs : List (κ × V)} {k : κ} {v : V} (h : valV kvs k = some v) : (k, v) ∈ kvs := by
  induction kvs with
  | nil => simp [valV] at h
  | cons p kvs ih =>
    by_cases e : p.1 = k
    · rw [valV_pos e] at h
      cases h
      rw [← e]
      exact List.mem_cons_self
    · rw [valV_neg e] at h
      exact List.mem_cons_of_mem _ (ih h)
theorem KD.val {kvs : List (κ × V)} (d : KD kvs) {k : κ} (h : k ∈ kvs.map (·.1)) : ∃ i : Int, valV kvs k = some (.int i) := by
  cases q : valV kvs k with
  | none => exact absurd h (valV_none.mp q)
  | some v =>
    obtain ⟨i, e⟩ := d.vi _ (valV_some q)
    have e : v = .int i := e
    exact ⟨i, by rw [e]⟩
theorem KD.getD {kvs : List (κ × V)} (d : KD kvs) (k : κ) (j : Int) : ∃ i : Int, (valV kvs k).getD (.int j) = .int i := by
  by_cases h : k ∈ kvs.map (·.1)
  · obtain ⟨i, e⟩ := d.val h
    exact ⟨i, by rw [e]; rfl⟩
  · exact ⟨j, by rw [valV_none.mpr h]; rfl⟩
theorem putK_keys {kvs : List (κ × V)} {k : κ} {v : V} : (putK kvs k v).map (·.1) = if k ∈ kvs.map (·.1) then kvs.map (·.1) else kvs.map (·.1) ++ [k] := by
  unfold putK
  rw [any_valV]
  by_cases h : k ∈ kvs.map (·.1)
  · have : (valV kvs k).isSome = true := by
      cases q : valV kvs k with
      | none => exact absurd h (valV_none.mp q)
      | some v => rfl
    rw [if_pos this, if_pos h, List.map_map]
    refine List.map_congr_left fun p _ => ?_
    show (if p.1 = k then (p.1, v) else p).1 = p.1
    split <;> rfl
  · have : ¬ (valV kvs k).isSome = true := by rw [valV_none.mpr h]; simp
    rw [if_neg this, if_neg h, List.map_append]; rfl
theorem putK_mem {kvs : List (κ × V)} {k q : κ} {v : V} : q ∈ (putK kvs k v).map (·.1) ↔ q ∈ kvs.map (·.1) ∨ q = k := by
  rw [putK_keys]
  by_cases h : k ∈ kvs.map (·.1)
  · rw [if_pos h]
    exact ⟨.inl, fun z => z.elim id fun e => by rw [e]; exact h⟩
  · rw [if_neg h, List.mem_append, List.mem_singleton]
theorem KD.put {kvs : List (κ × V)} (d : KD kvs) (k : κ) (i : Int) : KD (putK kvs k (.int i)) := by
  refine ⟨?_, fun p hp => ?_⟩
  · rw [putK_keys]
    by_cases h : k ∈ kvs.map (·.1)
    · rw [if_pos h]; exact d.nd
    · rw [if_neg h]
      exact List.nodup_append.mpr ⟨d.nd, List.nodup_cons.mpr ⟨by simp, .nil⟩, fun a ha b hb e => by
        rw [List.mem_singleton.mp hb] at e
        exact h (by rw [← e]; exact ha)⟩
  · unfold putK at hp
    split at hp
    · obtain ⟨q, hq, e⟩ := List.mem_map.mp hp
      have e : (if q.1 = k then (q.1, V.int i) else q) = p := e
      split at e
      · rw [← e]; exact ⟨i, rfl⟩
      · rw [← e]; exact d.vi q hq
    · rcases List.mem_append.mp hp with hp | hp
      · exact d.vi p hp
      · rw [List.mem_singleton.mp hp]; exact ⟨i, rfl⟩
theorem mergeT_mem {q : κ} : ∀ {more kvs : List (κ × V)}, q ∈ (mergeT kvs more).map (·.1) ↔ q ∈ kvs.map (·.1) ∨ q ∈ more.map (·.1)
  | [], kvs => by
    show q ∈ kvs.map (·.1) ↔ _
    simp
  | p :: more, kvs => by
    show q ∈ (mergeT (putK kvs p.1 p.2) more).map (·.1) ↔ _
    rw [mergeT_mem, putK_mem, List.map_cons, List.mem_cons]
    constructor
    · rintro ((h | h) | h)
      · exact .inl h
      · exact .inr (.inl h)
      · exact .inr (.inr h)
    · rintro (h | h | h)
      · exact .inl (.inl h)
      · exact .inl (.inr h)
      · exact .inr h
theorem KD.merge : ∀ {more kvs : List (κ × V)}, KD kvs → (∀ p ∈ more, ∃ i : Int, p.2 = V.int i) → KD (mergeT kvs more)
  | [], kvs, d, _ => d
  | p :: more, kvs, d, h => by
    show KD (mergeT (putK kvs p.1 p.2) more)
    obtain ⟨i, e⟩ := h p List.mem_cons_self
    rw [e]
    exact KD.merge (d.put _ _) fun q hq => h q (List.mem_cons_of_mem _ hq)
theorem KD.nil : KD ([] : List (κ × V)) := ⟨.nil, fun p h => by cases h⟩
theorem KD.one (k : κ) (i : Int) : KD [(k, V.int i)] := ⟨List.nodup_cons.mpr ⟨by simp, .nil⟩, fun p h => by rw [List.mem_singleton.mp h]; exact ⟨i, rfl⟩⟩
end

/-! ### lots as numbers of bits -/
def numsN (m : Nat) : List Int := (List.range m).map fun (i : Nat) => (i : Int)
/-- the numbers of the bits of a, below m -/
def lotOf (m a : Nat) : List Int := (numsN m).filter fun i => a.testBit i.toNat
theorem numsN_pw (m : Nat) : (numsN m).Pairwise (· < ·) := by
  unfold numsN
  rw [List.pairwise_map]
  exact List.pairwise_lt_range.imp fun h => by omega
theorem numsN_mem {m : Nat} {i : Int} : i ∈ numsN m ↔ 0 ≤ i ∧ i < m := by
  unfold numsN
  constructor
  · intro h
    obtain ⟨j, hj, rfl⟩ := List.mem_map.mp h
    have := List.mem_range.mp hj
    omega
  · intro ⟨h0, h1⟩
    exact List.mem_map.mpr ⟨i.toNat, List.mem_range.mpr (by omega), by omega⟩
theorem lotOf_pw (m a : Nat) : (lotOf m a).Pairwise (· < ·) := (numsN_pw m).sublist List.filter_sublist
theorem lotOf_mem {m a : Nat} {i : Int} : i ∈ lotOf m a ↔ (0 ≤ i ∧ i < m) ∧ a.testBit i.toNat = true := by
  unfold lotOf
  rw [List.mem_filter, numsN_mem]
theorem lotOf_inj {m a b : Nat} (ha : a < 2 ^ m) (hb : b < 2 ^ m) (h : lotOf m a = lotOf m b) : a = b := by
  refine Nat.eq_of_testBit_eq fun i => ?_
  by_cases hi : i < m
  · have h1 : ((i : Int) ∈ lotOf m a ↔ (i : Int) ∈ lotOf m b) := by rw [h]
    rw [lotOf_mem, lotOf_mem, Int.toNat_natCast] at h1
    have hh : (0 : Int) ≤ i ∧ (i : Int) < m := by omega
    simp only [hh, and_self, true_and] at h1
    cases q1 : a.testBit i <;> cases q2 : b.testBit i <;> simp_all
  · rw [Nat.testBit_lt_two_pow (Nat.lt_of_lt_of_le ha (Nat.pow_le_pow_right (by omega) (by omega))), Nat.testBit_lt_two_pow (Nat.lt_of_lt_of_le hb (Nat.pow_le_pow_right (by omega) (by omega)))]
/-- strictly rising lists of the same items are the same -/
theorem rise_eq {a b : List Int} (ha : a.Pairwise (· < ·)) (hb : b.Pairwise (· < ·)) (h : ∀ i, i ∈ a ↔ i ∈ b) : a = b := by
  have p : a.Perm b := (List.perm_ext_iff_of_nodup (ha.imp fun h => by omega) (hb.imp fun h => by omega)).mpr h
  exact p.eq_of_pairwise (le := fun x y => x < y) (fun x y _ _ h1 h2 => by omega) ha hb
theorem bit_div {a i : Nat} (h : a.testBit i = false) : a / 2 ^ i % 2 = 0 := by
  rw [Nat.testBit_eq_decide_div_mod_eq] at h
  have := of_decide_eq_false h
  omega
theorem add_or {a i : Nat} (h : a.testBit i = false) : a + 2 ^ i = a ||| 2 ^ i := by
  refine Nat.eq_of_testBit_eq fun j => ?_
  rw [Nat.testBit_or, Nat.testBit_two_pow, Nat.add_comm]
  rcases Nat.lt_trichotomy j i with c | c | c
  · rw [Nat.testBit_two_pow_add_gt c]
    have : decide (i = j) = false := decide_eq_false (by omega)
    rw [this, Bool.or_false]
  · subst c
    rw [Nat.testBit_two_pow_add_eq, h]
    simp
  · have : decide (i = j) = false := decide_eq_false (by omega)
    rw [this, Bool.or_false]
    obtain ⟨k, rfl⟩ : ∃ k, j = k + (i + 1) := ⟨j - (i + 1), by omega⟩
    rw [Nat.testBit_add, Nat.testBit_add]
    have e : (2 ^ i + a) / 2 ^ (i + 1) = a / 2 ^ (i + 1) := by
      rw [Nat.pow_succ, ← Nat.div_div_eq_div_mul, ← Nat.div_div_eq_div_mul, Nat.add_div_left _ (Nat.two_pow_pos i)]
      have := bit_div h
      omega
    rw [e]
theorem lotOf_put {m a i : Nat} (hi : i < m) (hb : a.testBit i = false) : sortI (lotOf m a ++ [(i : Int)]) = lotOf m (a + 2 ^ i) := by
  have e : a + 2 ^ i = a ||| 2 ^ i := add_or hb
  have mem : ∀ j : Int, j ∈ lotOf m (a + 2 ^ i) ↔ j ∈ lotOf m a ++ [(i : Int)] := fun j => by
    rw [List.mem_append, lotOf_mem, lotOf_mem, List.mem_singleton, e]
    constructor
    · rintro ⟨h1, h2⟩
      rw [Nat.testBit_or, Bool.or_eq_true] at h2
      rcases h2 with h2 | h2
      · exact .inl ⟨h1, h2⟩
      · refine .inr ?_
        rw [Nat.testBit_two_pow] at h2
        have : i = j.toNat := by simpa using h2
        omega
    · rintro (⟨h1, h2⟩ | h)
      · exact ⟨h1, by rw [Nat.testBit_or, h2]; rfl⟩
      · subst h
        refine ⟨by omega, ?_⟩
        rw [Int.toNat_natCast, Nat.testBit_or, Nat.testBit_two_pow]
        simp
  symm
  refine sortI_eq ?_ ((lotOf_pw m _).imp fun h => by omega)
  refine (List.perm_ext_iff_of_nodup ((lotOf_pw m _).imp fun h => by omega) ?_).mpr mem
  refine List.nodup_append.mpr ⟨(lotOf_pw m a).imp fun h => by omega, List.nodup_cons.mpr ⟨by simp, .nil⟩, fun x hx y hy e => ?_⟩
  rw [List.mem_singleton.mp hy] at e
  rw [e] at hx
  have := (lotOf_mem.mp hx).2
  rw [Int.toNat_natCast, hb] at this
  cases this
end Lf

set_option Elab.async false
set_option linter.all false
set_option maxRecDepth 100000
set_option maxHeartbeats 4000000
/-! printed by gen.py: the defs of layfaces_k21_laid_lots_and_stuck_ones -/
namespace K21
open PySem PySem.Spec L2 Lf
def top (i : Nat) : Stmt := PySem.Challenge.pw_layfaces_k21_laid_lots_and_stuck_ones.main.body.getD i (.Pass ⟨0, 0, 0, 0⟩)
abbrev s_is_whole : Stmt := top 8
abbrev s_is_from : Stmt := top 9
abbrev s_are_rising : Stmt := top 10
abbrev s_are_faces : Stmt := top 11
abbrev s_is_stack : Stmt := top 12
abbrev s_must_stack : Stmt := top 13
abbrev s_within : Stmt := top 14
abbrev s_faces_at : Stmt := top 16
abbrev s_brought_by : Stmt := top 17
abbrev s_face_may : Stmt := top 18
abbrev s_must_few : Stmt := top 21
abbrev s_must_searched : Stmt := top 22
abbrev s_steps_on : Stmt := top 23
abbrev s_put_to : Stmt := top 24
abbrev s_laid_of : Stmt := top 25
abbrev s_laid_lots : Stmt := top 26
abbrev s_most_laid : Stmt := top 27
abbrev s_stuck_lots : Stmt := top 28
abbrev s__law_same : Stmt := top 30
abbrev s__law_cell : Stmt := top 31
abbrev s__law_pen : Stmt := top 32
abbrev s__law_draw : Stmt := top 33
abbrev s__law_all : Stmt := top 34
abbrev s__law_stack : Stmt := top 35
abbrev s__law_within : Stmt := top 36
abbrev s__law_common : Stmt := top 37
abbrev s__law_may : Stmt := top 38
abbrev s__law_at : Stmt := top 39
abbrev s__law_lots_of : Stmt := top 40
abbrev s__law_numbers : Stmt := top 41
abbrev s__law_barred : Stmt := top 42
abbrev s__law_right : Stmt := top 43
abbrev s_law : Stmt := top 44
structure Df (K : PySem.W.Frag) (mg : Str → Option Value) (x : Str) (st : Stmt) (ps : List Str) where
  f : Addr
  fd : FuncData
  F : Fun K x x st f fd
  m : mg x = some (.ref f)
  b : Binds K fd ps []
structure All (K : PySem.W.Frag) (mg : Str → Option Value) where
  d_is_whole : Df K mg "is_whole" s_is_whole ["thing"]
  d_is_from : Df K mg "is_from" s_is_from ["thing", "low", "high"]
  d_are_rising : Df K mg "are_rising" s_are_rising ["many", "thing"]
  d_are_faces : Df K mg "are_faces" s_are_faces ["n", "k", "thing"]
  d_is_stack : Df K mg "is_stack" s_is_stack ["thing"]
  d_must_stack : Df K mg "must_stack" s_must_stack ["stack"]
  d_within : Df K mg "within" s_within ["part", "face"]
  d_faces_at : Df K mg "faces_at" s_faces_at ["stack", "numbers"]
  d_brought_by : Df K mg "brought_by" s_brought_by ["faces", "face"]
  d_face_may : Df K mg "face_may" s_face_may ["faces", "face"]
  d_must_few : Df K mg "must_few" s_must_few ["stack"]
  d_must_searched : Df K mg "must_searched" s_must_searched ["stack"]
  d_steps_on : Df K mg "steps_on" s_steps_on ["stack", "lot"]
  d_put_to : Df K mg "put_to" s_put_to ["lot", "number"]
  d_laid_of : Df K mg "laid_of" s_laid_of ["stack"]
  d_laid_lots : Df K mg "laid_lots" s_laid_lots ["stack"]
  d_most_laid : Df K mg "most_laid" s_most_laid ["stack"]
  d_stuck_lots : Df K mg "stuck_lots" s_stuck_lots ["stack"]
  d__law_same : Df K mg "_law_same" s__law_same ["_law_found", "_law_due"]
  d__law_cell : Df K mg "_law_cell" s__law_cell ["_law_script", "_law_k"]
  d__law_pen : Df K mg "_law_pen" s__law_pen ["_law_cell_here"]
  d__law_draw : Df K mg "_law_draw" s__law_draw ["_law_pen_here", "_law_many"]
  d__law_all : Df K mg "_law_all" s__law_all ["_law_n", "_law_k"]
  d__law_stack : Df K mg "_law_stack" s__law_stack ["_law_pen_here", "_law_most"]
  d__law_within : Df K mg "_law_within" s__law_within ["_law_part", "_law_face"]
  d__law_common : Df K mg "_law_common" s__law_common ["_law_one", "_law_other"]
  d__law_may : Df K mg "_law_may" s__law_may ["_law_k", "_law_faces", "_law_face"]
  d__law_at : Df K mg "_law_at" s__law_at ["_law_stack_here", "_law_numbers_here"]
  d__law_lots_of : Df K mg "_law_lots_of" s__law_lots_of ["_law_stack_here"]
  d__law_numbers : Df K mg "_law_numbers" s__law_numbers ["_law_lot"]
  d__law_barred : Df K mg "_law_barred" s__law_barred ["_law_pen_here", "_law_most"]
  d__law_right : Df K mg "_law_right" s__law_right ["_law_stack_here"]
  d_law : Df K mg "law" s_law ["_law_script"]
  b_all : mg "all" = none
  b_any : mg "any" = none
  b_bool : mg "bool" = none
  b_int : mg "int" = none
  b_isinstance : mg "isinstance" = none
  b_len : mg "len" = none
  b_list : mg "list" = none
  b_max : mg "max" = none
  b_min : mg "min" = none
  b_range : mg "range" = none
  b_set : mg "set" = none
  b_sorted : mg "sorted" = none
  b_str : mg "str" = none
  b_tuple : mg "tuple" = none
  b_zip : mg "zip" = none
  t_MOST_FACES : Tok
  c_MOST_FACES : mg "MOST_FACES" = some (.int 70 t_MOST_FACES)
  t_MOST_POINTS : Tok
  c_MOST_POINTS : mg "MOST_POINTS" = some (.int 8 t_MOST_POINTS)
  t_MOST_SEARCHED : Tok
  c_MOST_SEARCHED : mg "MOST_SEARCHED" = some (.int 9 t_MOST_SEARCHED)
  t_MOST_TAKEN : Tok
  c_MOST_TAKEN : mg "MOST_TAKEN" = some (.int 4 t_MOST_TAKEN)
theorem bt_all : bootBuiltins "all" = some (.builtin "all") := by decide +kernel
theorem bt_any : bootBuiltins "any" = some (.builtin "any") := by decide +kernel
theorem bt_bool : bootBuiltins "bool" = some (.type "bool") := by decide +kernel
theorem bt_int : bootBuiltins "int" = some (.type "int") := by decide +kernel
theorem bt_isinstance : bootBuiltins "isinstance" = some (.builtin "isinstance") := by decide +kernel
theorem bt_len : bootBuiltins "len" = some (.builtin "len") := by decide +kernel
theorem bt_list : bootBuiltins "list" = some (.type "list") := by decide +kernel
theorem bt_max : bootBuiltins "max" = some (.builtin "max") := by decide +kernel
theorem bt_min : bootBuiltins "min" = some (.builtin "min") := by decide +kernel
theorem bt_range : bootBuiltins "range" = some (.type "range") := by decide +kernel
theorem bt_set : bootBuiltins "set" = some (.type "set") := by decide +kernel
theorem bt_sorted : bootBuiltins "sorted" = some (.builtin "sorted") := by decide +kernel
theorem bt_str : bootBuiltins "str" = some (.type "str") := by decide +kernel
theorem bt_tuple : bootBuiltins "tuple" = some (.type "tuple") := by decide +kernel
theorem bt_zip : bootBuiltins "zip" = some (.type "zip") := by decide +kernel
theorem room_of {j k : Nat} {A : Around} (r : Room k A) (h : j ≤ k) : Room j A := r.mono h
section
variable {P : Program} {w : World} {K : PySem.W.Frag} {mg : Str → Option Value} {base : Heap}
def N_is_whole : List Str := ["thing"]
abbrev K_is_whole : Nat := 1
theorem nd_is_whole : (N_is_whole).Nodup := by decide +kernel
theorem sc_is_whole : FnScope N_is_whole ["thing"] (defScope s_is_whole) := ⟨rfl, rfl, rfl, nd_is_whole, rfl, by decide +kernel, by decide +kernel⟩
def fB_is_whole : Ev Fl := sRet (xAndV (xIsi (fun t => kitB t "int") (xVar 0)) (xNotV (xIsi (fun t => kitB t "bool") (xVar 0))))
def φ_is_whole : Fn := runF 1 1 fB_is_whole
theorem ok_is_whole (A : All K mg) : FnOk P w K mg base (L2.CX P w) K_is_whole A.d_is_whole.f A.d_is_whole.fd ["thing"] (spV K mg 1 φ_is_whole) :=
  fn_ok (N := N_is_whole) (k := 0) (n := 1) (fB := fB_is_whole) A.d_is_whole.F sc_is_whole rfl (by decide) (fun cdv AA outer s H E hr => by
  have nd := nd_is_whole
  have tk : Takes (cxOf (L2.CX P w) P w K mg base N_is_whole "is_whole" (defScope s_is_whole) A.d_is_whole.f cdv AA outer s H E) (fun cls d _ H => E cls d H) := takes_of rfl rfl rfl rfl
  have hp : PassesOwn (model P w) (cxOf (L2.CX P w) P w K mg base N_is_whole "is_whole" (defScope s_is_whole) A.d_is_whole.f cdv AA outer s H E).A (cxOf (L2.CX P w) P w K mg base N_is_whole "is_whole" (defScope s_is_whole) A.d_is_whole.f cdv AA outer s H E).env (cxOf (L2.CX P w) P w K mg base N_is_whole "is_whole" (defScope s_is_whole) A.d_is_whole.f cdv AA outer s H E).xe := passes_of rfl
  have hu65 : (cxOf (L2.CX P w) P w K mg base N_is_whole "is_whole" (defScope s_is_whole) A.d_is_whole.f cdv AA outer s H E).A.units + 65 < cLine := by
    have := hr.un
    show (AA.deeper _).units + 65 < cLine
    omega
  have hu64 : (cxOf (L2.CX P w) P w K mg base N_is_whole "is_whole" (defScope s_is_whole) A.d_is_whole.f cdv AA outer s H E).A.units + 64 < cLine := Nat.lt_of_succ_lt hu65
  have hu1 : (cxOf (L2.CX P w) P w K mg base N_is_whole "is_whole" (defScope s_is_whole) A.d_is_whole.f cdv AA outer s H E).A.units + 1 < cLine := by omega
  exact vss_one (vs_ret (ve_and (ve_isi (ve_var 0) (by rfl) A.b_isinstance (by rfl) A.b_int bt_int) (ve_one (op := .And) (ve_not (ve_isi (ve_var 0) (by rfl) A.b_isinstance (by rfl) A.b_bool bt_bool))))))
def N_is_from : List Str := ["thing", "low", "high"]
abbrev K_is_from : Nat := 2
theorem nd_is_from : (N_is_from).Nodup := by decide +kernel
theorem sc_is_from : FnScope N_is_from ["thing", "low", "high"] (defScope s_is_from) := ⟨rfl, rfl, rfl, nd_is_from, rfl, by decide +kernel, by decide +kernel⟩
def fB_is_from : Ev Fl := sRet (xAndV (xCall φ_is_whole (yCons (xVar 0) (yNil))) (xChain gLe gLe (xVar 1) (xVar 0) (xVar 2)))
def φ_is_from : Fn := runF 3 3 fB_is_from
theorem ok_is_from (A : All K mg) : FnOk P w K mg base (L2.CX P w) K_is_from A.d_is_from.f A.d_is_from.fd ["thing", "low", "high"] (spV K mg 3 φ_is_from) :=
  fn_ok (N := N_is_from) (k := 1) (n := 3) (fB := fB_is_from) A.d_is_from.F sc_is_from rfl (by decide) (fun cdv AA outer s H E hr => by
  have nd := nd_is_from
  have tk : Takes (cxOf (L2.CX P w) P w K mg base N_is_from "is_from" (defScope s_is_from) A.d_is_from.f cdv AA outer s H E) (fun cls d _ H => E cls d H) := takes_of rfl rfl rfl rfl
  have hp : PassesOwn (model P w) (cxOf (L2.CX P w) P w K mg base N_is_from "is_from" (defScope s_is_from) A.d_is_from.f cdv AA outer s H E).A (cxOf (L2.CX P w) P w K mg base N_is_from "is_from" (defScope s_is_from) A.d_is_from.f cdv AA outer s H E).env (cxOf (L2.CX P w) P w K mg base N_is_from "is_from" (defScope s_is_from) A.d_is_from.f cdv AA outer s H E).xe := passes_of rfl
  have hu65 : (cxOf (L2.CX P w) P w K mg base N_is_from "is_from" (defScope s_is_from) A.d_is_from.f cdv AA outer s H E).A.units + 65 < cLine := by
    have := hr.un
    show (AA.deeper _).units + 65 < cLine
    omega
  have hu64 : (cxOf (L2.CX P w) P w K mg base N_is_from "is_from" (defScope s_is_from) A.d_is_from.f cdv AA outer s H E).A.units + 64 < cLine := Nat.lt_of_succ_lt hu65
  have hu1 : (cxOf (L2.CX P w) P w K mg base N_is_from "is_from" (defScope s_is_from) A.d_is_from.f cdv AA outer s H E).A.units + 1 < cLine := by omega
  exact vss_one (vs_ret (ve_and (ve_call (ok_is_whole A) (room_of (j := K_is_whole) hr (by decide)) (by rfl) A.d_is_whole.m A.d_is_whole.F.kp A.d_is_whole.b tk (vb_cons (ve_var 0) (vb_nil)) (len_cons (len_nil))) (ve_one (op := .And) (ve_chain od_le od_le (ve_var 1) (ve_var 0) (ve_var 2))))))
def N_are_rising : List Str := ["many", "thing", "one", "other"]
abbrev K_are_rising : Nat := 3
theorem nd_are_rising : (N_are_rising).Nodup := by decide +kernel
theorem sc_are_rising : FnScope N_are_rising ["many", "thing"] (defScope s_are_rising) := ⟨rfl, rfl, rfl, nd_are_rising, rfl, by decide +kernel, by decide +kernel⟩
def fB_are_rising : Ev Fl := sSeq (sIf (xOr (xNot (xTr (xIsi (fun t => kitB t "tuple") (xVar 1)))) (xNot (xTr (xPure gAll (yCons (xLc (xIt (xVar 1)) (gN 2) (xYes) (xCall φ_is_from (yCons (xVar 2) (yCons (xLn (xC (.int 0))) (yCons (xLn (xBin gSub (xVar 0) (xC (.int 1)))) (yNil))))) [2]) (yNil)))))) (sRet (xC (.bl false))) (sSkip)) (sRet (xPure gAll (yCons (xLc (xZip (yCons (xVar 1) (yCons (xSl (xVar 1) (oAt (xC (.int 1))) (oNo)) (yNil)))) (gT [2, 3]) (xYes) (xBin gLt (xVar 2) (xVar 3)) [2, 3]) (yNil))))
def φ_are_rising : Fn := runF 4 2 fB_are_rising
theorem ok_are_rising (A : All K mg) : FnOk P w K mg base (L2.CX P w) K_are_rising A.d_are_rising.f A.d_are_rising.fd ["many", "thing"] (spV K mg 2 φ_are_rising) :=
  fn_ok (N := N_are_rising) (k := 2) (n := 2) (fB := fB_are_rising) A.d_are_rising.F sc_are_rising rfl (by decide) (fun cdv AA outer s H E hr => by
  have nd := nd_are_rising
  have tk : Takes (cxOf (L2.CX P w) P w K mg base N_are_rising "are_rising" (defScope s_are_rising) A.d_are_rising.f cdv AA outer s H E) (fun cls d _ H => E cls d H) := takes_of rfl rfl rfl rfl
  have hp : PassesOwn (model P w) (cxOf (L2.CX P w) P w K mg base N_are_rising "are_rising" (defScope s_are_rising) A.d_are_rising.f cdv AA outer s H E).A (cxOf (L2.CX P w) P w K mg base N_are_rising "are_rising" (defScope s_are_rising) A.d_are_rising.f cdv AA outer s H E).env (cxOf (L2.CX P w) P w K mg base N_are_rising "are_rising" (defScope s_are_rising) A.d_are_rising.f cdv AA outer s H E).xe := passes_of rfl
  have hu65 : (cxOf (L2.CX P w) P w K mg base N_are_rising "are_rising" (defScope s_are_rising) A.d_are_rising.f cdv AA outer s H E).A.units + 65 < cLine := by
    have := hr.un
    show (AA.deeper _).units + 65 < cLine
    omega
  have hu64 : (cxOf (L2.CX P w) P w K mg base N_are_rising "are_rising" (defScope s_are_rising) A.d_are_rising.f cdv AA outer s H E).A.units + 64 < cLine := Nat.lt_of_succ_lt hu65
  have hu1 : (cxOf (L2.CX P w) P w K mg base N_are_rising "are_rising" (defScope s_are_rising) A.d_are_rising.f cdv AA outer s H E).A.units + 1 < cLine := by omega
  exact vss_cons (vs_if (VW.vt (vw_or (vt_not (vt_tr (ve_isi (ve_var 1) (by rfl) A.b_isinstance (by rfl) A.b_tuple bt_tuple))) (vw_or1 (vt_not (vt_tr (ve_callB (cd_all rfl) (by rfl) A.b_all bt_all (vb_cons (ve_lc (own := [("one", 2)]) rfl nd (vi_any (ve_var 1)) (blkOk_by (own := [("one", 2)]) (N := N_are_rising) (sc := defScope s_are_rising) (by decide +kernel)) (by decide) (fun _ _ _ _ _ => vg_name 2 nd) (fun _ _ _ _ _ => pts_yes) (fun _ _ _ _ _ => ve_call (ok_is_from A) (room_of (j := K_is_from) hr (by decide)) (by rfl) A.d_is_from.m A.d_is_from.F.kp A.d_is_from.b takes0 (vb_cons (ve_var 2) (vb_cons (ve_ln (ve_int)) (vb_cons (ve_ln (ve_op od_sub (ve_var 0) (ve_int))) (vb_nil)))) (len_cons (len_cons (len_cons (len_nil)))))) (vb_nil)))))))) (vss_one (vs_ret (ve_bl))) (vss_nil)) (vss_one (vs_ret (ve_callB (cd_all rfl) (by rfl) A.b_all bt_all (vb_cons (ve_lc (own := [("one", 2), ("other", 3)]) rfl nd (vi_zip (by rfl) A.b_zip (vb_cons (ve_var 1) (vb_cons (ve_sl (ve_var 1) (vp_at (ve_int)) (vp_no)) (vb_nil)))) (blkOk_by (own := [("one", 2), ("other", 3)]) (N := N_are_rising) (sc := defScope s_are_rising) (by decide +kernel)) (by decide) (fun _ _ _ _ _ => vg_tup rfl (vn_cons 2 nd (vn_cons 3 nd (vn_nil)))) (fun _ _ _ _ _ => pts_yes) (fun _ _ _ _ _ => ve_cmp (od_lt hu64) (ve_var 2) (ve_var 3))) (vb_nil))))))
def N_are_faces : List Str := ["n", "k", "thing", "face", "one", "other"]
abbrev K_are_faces : Nat := 4
theorem nd_are_faces : (N_are_faces).Nodup := by decide +kernel
theorem sc_are_faces : FnScope N_are_faces ["n", "k", "thing"] (defScope s_are_faces) := ⟨rfl, rfl, rfl, nd_are_faces, rfl, by decide +kernel, by decide +kernel⟩
def fB_are_faces : Ev Fl := sSeq (sIf (xOr (xNot (xTr (xIsi (fun t => kitB t "tuple") (xVar 2)))) (xNot (xB (xChain gLe gLe (xC (.int 1)) (xPure gLen (yCons (xVar 2) (yNil))) (xC (.int 70)))))) (sRet (xC (.bl false))) (sSkip)) (sSeq (sIf (xNot (xTr (xPure gAll (yCons (xLc (xIt (xVar 2)) (gN 3) (xYes) (xAndV (xCall φ_are_rising (yCons (xVar 0) (yCons (xVar 3) (yNil)))) (xBin gEq (xPure gLen (yCons (xVar 3) (yNil))) (xVar 1))) [3]) (yNil))))) (sRet (xC (.bl false))) (sSkip)) (sRet (xPure gAll (yCons (xLc (xZip (yCons (xVar 2) (yCons (xSl (xVar 2) (oAt (xC (.int 1))) (oNo)) (yNil)))) (gT [4, 5]) (xYes) (xBin gLt (xVar 4) (xVar 5)) [4, 5]) (yNil)))))
def φ_are_faces : Fn := runF 6 3 fB_are_faces
theorem ok_are_faces (A : All K mg) : FnOk P w K mg base (L2.CX P w) K_are_faces A.d_are_faces.f A.d_are_faces.fd ["n", "k", "thing"] (spV K mg 3 φ_are_faces) :=
  fn_ok (N := N_are_faces) (k := 3) (n := 3) (fB := fB_are_faces) A.d_are_faces.F sc_are_faces rfl (by decide) (fun cdv AA outer s H E hr => by
  have nd := nd_are_faces
  have tk : Takes (cxOf (L2.CX P w) P w K mg base N_are_faces "are_faces" (defScope s_are_faces) A.d_are_faces.f cdv AA outer s H E) (fun cls d _ H => E cls d H) := takes_of rfl rfl rfl rfl
  have hp : PassesOwn (model P w) (cxOf (L2.CX P w) P w K mg base N_are_faces "are_faces" (defScope s_are_faces) A.d_are_faces.f cdv AA outer s H E).A (cxOf (L2.CX P w) P w K mg base N_are_faces "are_faces" (defScope s_are_faces) A.d_are_faces.f cdv AA outer s H E).env (cxOf (L2.CX P w) P w K mg base N_are_faces "are_faces" (defScope s_are_faces) A.d_are_faces.f cdv AA outer s H E).xe := passes_of rfl
  have hu65 : (cxOf (L2.CX P w) P w K mg base N_are_faces "are_faces" (defScope s_are_faces) A.d_are_faces.f cdv AA outer s H E).A.units + 65 < cLine := by
    have := hr.un
    show (AA.deeper _).units + 65 < cLine
    omega
  have hu64 : (cxOf (L2.CX P w) P w K mg base N_are_faces "are_faces" (defScope s_are_faces) A.d_are_faces.f cdv AA outer s H E).A.units + 64 < cLine := Nat.lt_of_succ_lt hu65
  have hu1 : (cxOf (L2.CX P w) P w K mg base N_are_faces "are_faces" (defScope s_are_faces) A.d_are_faces.f cdv AA outer s H E).A.units + 1 < cLine := by omega
  exact vss_cons (vs_if (VW.vt (vw_or (vt_not (vt_tr (ve_isi (ve_var 2) (by rfl) A.b_isinstance (by rfl) A.b_tuple bt_tuple))) (vw_or1 (vt_not (vt_chain od_le od_le (ve_int) (ve_callB cd_len (by rfl) A.b_len bt_len (vb_cons (ve_var 2) (vb_nil))) (ve_globI (by rfl) A.c_MOST_FACES)))))) (vss_one (vs_ret (ve_bl))) (vss_nil)) (vss_cons (vs_if (vt_not (vt_tr (ve_callB (cd_all rfl) (by rfl) A.b_all bt_all (vb_cons (ve_lc (own := [("face", 3)]) rfl nd (vi_any (ve_var 2)) (blkOk_by (own := [("face", 3)]) (N := N_are_faces) (sc := defScope s_are_faces) (by decide +kernel)) (by decide) (fun _ _ _ _ _ => vg_name 3 nd) (fun _ _ _ _ _ => pts_yes) (fun _ _ _ _ _ => ve_and (ve_call (ok_are_rising A) (room_of (j := K_are_rising) hr (by decide)) (by rfl) A.d_are_rising.m A.d_are_rising.F.kp A.d_are_rising.b takes0 (vb_cons (ve_var 0) (vb_cons (ve_var 3) (vb_nil))) (len_cons (len_cons (len_nil)))) (ve_one (op := .And) (ve_cmp (od_eq hu64) (ve_callB cd_len (by rfl) A.b_len bt_len (vb_cons (ve_var 3) (vb_nil))) (ve_var 1))))) (vb_nil))))) (vss_one (vs_ret (ve_bl))) (vss_nil)) (vss_one (vs_ret (ve_callB (cd_all rfl) (by rfl) A.b_all bt_all (vb_cons (ve_lc (own := [("one", 4), ("other", 5)]) rfl nd (vi_zip (by rfl) A.b_zip (vb_cons (ve_var 2) (vb_cons (ve_sl (ve_var 2) (vp_at (ve_int)) (vp_no)) (vb_nil)))) (blkOk_by (own := [("one", 4), ("other", 5)]) (N := N_are_faces) (sc := defScope s_are_faces) (by decide +kernel)) (by decide) (fun _ _ _ _ _ => vg_tup rfl (vn_cons 4 nd (vn_cons 5 nd (vn_nil)))) (fun _ _ _ _ _ => pts_yes) (fun _ _ _ _ _ => ve_cmp (od_lt hu64) (ve_var 4) (ve_var 5))) (vb_nil)))))))
def N_is_stack : List Str := ["thing", "n", "k", "faces"]
abbrev K_is_stack : Nat := 5
theorem nd_is_stack : (N_is_stack).Nodup := by decide +kernel
theorem sc_is_stack : FnScope N_is_stack ["thing"] (defScope s_is_stack) := ⟨rfl, rfl, rfl, nd_is_stack, rfl, by decide +kernel, by decide +kernel⟩
def fB_is_stack : Ev Fl := sSeq (sIf (xOr (xNot (xTr (xIsi (fun t => kitB t "tuple") (xVar 0)))) (xCmpT gNe (xPure gLen (yCons (xVar 0) (yNil))) (xC (.int 3)))) (sRet (xC (.bl false))) (sSkip)) (sSeq (sUnp [1, 2, 3] (xVar 0)) (sSeq (sIf (xOr (xNot (xTr (xCall φ_is_from (yCons (xVar 1) (yCons (xLn (xC (.int 1))) (yCons (xC (.int 8)) (yNil))))))) (xNot (xTr (xCall φ_is_from (yCons (xVar 2) (yCons (xLn (xC (.int 0))) (yCons (xLn (xPure gMin (yCons (xVar 1) (yCons (xC (.int 4)) (yNil))))) (yNil)))))))) (sRet (xC (.bl false))) (sSkip)) (sRet (xCall φ_are_faces (yCons (xVar 1) (yCons (xVar 2) (yCons (xVar 3) (yNil))))))))
def φ_is_stack : Fn := runF 4 1 fB_is_stack
theorem ok_is_stack (A : All K mg) : FnOk P w K mg base (L2.CX P w) K_is_stack A.d_is_stack.f A.d_is_stack.fd ["thing"] (spV K mg 1 φ_is_stack) :=
  fn_ok (N := N_is_stack) (k := 4) (n := 1) (fB := fB_is_stack) A.d_is_stack.F sc_is_stack rfl (by decide) (fun cdv AA outer s H E hr => by
  have nd := nd_is_stack
  have tk : Takes (cxOf (L2.CX P w) P w K mg base N_is_stack "is_stack" (defScope s_is_stack) A.d_is_stack.f cdv AA outer s H E) (fun cls d _ H => E cls d H) := takes_of rfl rfl rfl rfl
  have hp : PassesOwn (model P w) (cxOf (L2.CX P w) P w K mg base N_is_stack "is_stack" (defScope s_is_stack) A.d_is_stack.f cdv AA outer s H E).A (cxOf (L2.CX P w) P w K mg base N_is_stack "is_stack" (defScope s_is_stack) A.d_is_stack.f cdv AA outer s H E).env (cxOf (L2.CX P w) P w K mg base N_is_stack "is_stack" (defScope s_is_stack) A.d_is_stack.f cdv AA outer s H E).xe := passes_of rfl
  have hu65 : (cxOf (L2.CX P w) P w K mg base N_is_stack "is_stack" (defScope s_is_stack) A.d_is_stack.f cdv AA outer s H E).A.units + 65 < cLine := by
    have := hr.un
    show (AA.deeper _).units + 65 < cLine
    omega
  have hu64 : (cxOf (L2.CX P w) P w K mg base N_is_stack "is_stack" (defScope s_is_stack) A.d_is_stack.f cdv AA outer s H E).A.units + 64 < cLine := Nat.lt_of_succ_lt hu65
  have hu1 : (cxOf (L2.CX P w) P w K mg base N_is_stack "is_stack" (defScope s_is_stack) A.d_is_stack.f cdv AA outer s H E).A.units + 1 < cLine := by omega
  exact vss_cons (vs_if (VW.vt (vw_or (vt_not (vt_tr (ve_isi (ve_var 0) (by rfl) A.b_isinstance (by rfl) A.b_tuple bt_tuple))) (vw_or1 (vt_cmp (od_ne hu64) (ve_callB cd_len (by rfl) A.b_len bt_len (vb_cons (ve_var 0) (vb_nil))) (ve_int))))) (vss_one (vs_ret (ve_bl))) (vss_nil)) (vss_cons (vs_unp (n := 0) rfl (ve_var 0) (vn_cons 1 nd (vn_cons 2 nd (vn_cons 3 nd (vn_nil))))) (vss_cons (vs_if (VW.vt (vw_or (vt_not (vt_tr (ve_call (ok_is_from A) (room_of (j := K_is_from) hr (by decide)) (by rfl) A.d_is_from.m A.d_is_from.F.kp A.d_is_from.b tk (vb_cons (ve_var 1) (vb_cons (ve_ln (ve_int)) (vb_cons (ve_globI (by rfl) A.c_MOST_POINTS) (vb_nil)))) (len_cons (len_cons (len_cons (len_nil))))))) (vw_or1 (vt_not (vt_tr (ve_call (ok_is_from A) (room_of (j := K_is_from) hr (by decide)) (by rfl) A.d_is_from.m A.d_is_from.F.kp A.d_is_from.b tk (vb_cons (ve_var 2) (vb_cons (ve_ln (ve_int)) (vb_cons (ve_ln (ve_callB (cd_min rfl) (by rfl) A.b_min bt_min (vb_cons (ve_var 1) (vb_cons (ve_globI (by rfl) A.c_MOST_TAKEN) (vb_nil))))) (vb_nil)))) (len_cons (len_cons (len_cons (len_nil)))))))))) (vss_one (vs_ret (ve_bl))) (vss_nil)) (vss_one (vs_ret (ve_call (ok_are_faces A) (room_of (j := K_are_faces) hr (by decide)) (by rfl) A.d_are_faces.m A.d_are_faces.F.kp A.d_are_faces.b tk (vb_cons (ve_var 1) (vb_cons (ve_var 2) (vb_cons (ve_var 3) (vb_nil)))) (len_cons (len_cons (len_cons (len_nil))))))))))
def N_must_stack : List Str := ["stack"]
abbrev K_must_stack : Nat := 6
theorem nd_must_stack : (N_must_stack).Nodup := by decide +kernel
theorem sc_must_stack : FnScope N_must_stack ["stack"] (defScope s_must_stack) := ⟨rfl, rfl, rfl, nd_must_stack, rfl, by decide +kernel, by decide +kernel⟩
def fB_must_stack : Ev Fl := sIf (xNot (xTr (xCall φ_is_stack (yCons (xVar 0) (yNil))))) (xNone) (sSkip)
def φ_must_stack : Fn := runF 1 1 fB_must_stack
theorem ok_must_stack (A : All K mg) : FnOk P w K mg base (L2.CX P w) K_must_stack A.d_must_stack.f A.d_must_stack.fd ["stack"] (spV K mg 1 φ_must_stack) :=
  fn_ok (N := N_must_stack) (k := 5) (n := 1) (fB := fB_must_stack) A.d_must_stack.F sc_must_stack rfl (by decide) (fun cdv AA outer s H E hr => by
  have nd := nd_must_stack
  have tk : Takes (cxOf (L2.CX P w) P w K mg base N_must_stack "must_stack" (defScope s_must_stack) A.d_must_stack.f cdv AA outer s H E) (fun cls d _ H => E cls d H) := takes_of rfl rfl rfl rfl
  have hp : PassesOwn (model P w) (cxOf (L2.CX P w) P w K mg base N_must_stack "must_stack" (defScope s_must_stack) A.d_must_stack.f cdv AA outer s H E).A (cxOf (L2.CX P w) P w K mg base N_must_stack "must_stack" (defScope s_must_stack) A.d_must_stack.f cdv AA outer s H E).env (cxOf (L2.CX P w) P w K mg base N_must_stack "must_stack" (defScope s_must_stack) A.d_must_stack.f cdv AA outer s H E).xe := passes_of rfl
  have hu65 : (cxOf (L2.CX P w) P w K mg base N_must_stack "must_stack" (defScope s_must_stack) A.d_must_stack.f cdv AA outer s H E).A.units + 65 < cLine := by
    have := hr.un
    show (AA.deeper _).units + 65 < cLine
    omega
  have hu64 : (cxOf (L2.CX P w) P w K mg base N_must_stack "must_stack" (defScope s_must_stack) A.d_must_stack.f cdv AA outer s H E).A.units + 64 < cLine := Nat.lt_of_succ_lt hu65
  have hu1 : (cxOf (L2.CX P w) P w K mg base N_must_stack "must_stack" (defScope s_must_stack) A.d_must_stack.f cdv AA outer s H E).A.units + 1 < cLine := by omega
  exact vss_one (vs_if (vt_not (vt_tr (ve_call (ok_is_stack A) (room_of (j := K_is_stack) hr (by decide)) (by rfl) A.d_is_stack.m A.d_is_stack.F.kp A.d_is_stack.b tk (vb_cons (ve_var 0) (vb_nil)) (len_cons (len_nil))))) (vss_one (vs_none)) (vss_nil)))
def N_within : List Str := ["part", "face", "point"]
abbrev K_within : Nat := 1
theorem nd_within : (N_within).Nodup := by decide +kernel
theorem sc_within : FnScope N_within ["part", "face"] (defScope s_within) := ⟨rfl, rfl, rfl, nd_within, rfl, by decide +kernel, by decide +kernel⟩
def fB_within : Ev Fl := sRet (xPure gAll (yCons (xLc (xIt (xVar 0)) (gN 2) (xYes) (xBin gIn (xVar 2) (xVar 1)) [2]) (yNil)))
def φ_within : Fn := runF 3 2 fB_within
theorem ok_within (A : All K mg) : FnOk P w K mg base (L2.CX P w) K_within A.d_within.f A.d_within.fd ["part", "face"] (spV K mg 2 φ_within) :=
  fn_ok (N := N_within) (k := 0) (n := 2) (fB := fB_within) A.d_within.F sc_within rfl (by decide) (fun cdv AA outer s H E hr => by
  have nd := nd_within
  have tk : Takes (cxOf (L2.CX P w) P w K mg base N_within "within" (defScope s_within) A.d_within.f cdv AA outer s H E) (fun cls d _ H => E cls d H) := takes_of rfl rfl rfl rfl
  have hp : PassesOwn (model P w) (cxOf (L2.CX P w) P w K mg base N_within "within" (defScope s_within) A.d_within.f cdv AA outer s H E).A (cxOf (L2.CX P w) P w K mg base N_within "within" (defScope s_within) A.d_within.f cdv AA outer s H E).env (cxOf (L2.CX P w) P w K mg base N_within "within" (defScope s_within) A.d_within.f cdv AA outer s H E).xe := passes_of rfl
  have hu65 : (cxOf (L2.CX P w) P w K mg base N_within "within" (defScope s_within) A.d_within.f cdv AA outer s H E).A.units + 65 < cLine := by
    have := hr.un
    show (AA.deeper _).units + 65 < cLine
    omega
  have hu64 : (cxOf (L2.CX P w) P w K mg base N_within "within" (defScope s_within) A.d_within.f cdv AA outer s H E).A.units + 64 < cLine := Nat.lt_of_succ_lt hu65
  have hu1 : (cxOf (L2.CX P w) P w K mg base N_within "within" (defScope s_within) A.d_within.f cdv AA outer s H E).A.units + 1 < cLine := by omega
  exact vss_one (vs_ret (ve_callB (cd_all rfl) (by rfl) A.b_all bt_all (vb_cons (ve_lc (own := [("point", 2)]) rfl nd (vi_any (ve_var 0)) (blkOk_by (own := [("point", 2)]) (N := N_within) (sc := defScope s_within) (by decide +kernel)) (by decide) (fun _ _ _ _ _ => vg_name 2 nd) (fun _ _ _ _ _ => pts_yes) (fun _ _ _ _ _ => ve_cmp (od_in hu65) (ve_var 2) (ve_var 1))) (vb_nil)))))
def N_faces_at : List Str := ["stack", "numbers", "number"]
abbrev K_faces_at : Nat := 1
theorem nd_faces_at : (N_faces_at).Nodup := by decide +kernel
theorem sc_faces_at : FnScope N_faces_at ["stack", "numbers"] (defScope s_faces_at) := ⟨rfl, rfl, rfl, nd_faces_at, rfl, by decide +kernel, by decide +kernel⟩
def fB_faces_at : Ev Fl := sRet (xLc (xIt (xVar 1)) (gN 2) (xYes) (xBin gIx (xBin gIx (xVar 0) (xC (.int 2))) (xVar 2)) [2])
def φ_faces_at : Fn := runF 3 2 fB_faces_at
theorem ok_faces_at (A : All K mg) : FnOk P w K mg base (L2.CX P w) K_faces_at A.d_faces_at.f A.d_faces_at.fd ["stack", "numbers"] (spV K mg 2 φ_faces_at) :=
  fn_ok (N := N_faces_at) (k := 0) (n := 2) (fB := fB_faces_at) A.d_faces_at.F sc_faces_at rfl (by decide) (fun cdv AA outer s H E hr => by
  have nd := nd_faces_at
  have tk : Takes (cxOf (L2.CX P w) P w K mg base N_faces_at "faces_at" (defScope s_faces_at) A.d_faces_at.f cdv AA outer s H E) (fun cls d _ H => E cls d H) := takes_of rfl rfl rfl rfl
  have hp : PassesOwn (model P w) (cxOf (L2.CX P w) P w K mg base N_faces_at "faces_at" (defScope s_faces_at) A.d_faces_at.f cdv AA outer s H E).A (cxOf (L2.CX P w) P w K mg base N_faces_at "faces_at" (defScope s_faces_at) A.d_faces_at.f cdv AA outer s H E).env (cxOf (L2.CX P w) P w K mg base N_faces_at "faces_at" (defScope s_faces_at) A.d_faces_at.f cdv AA outer s H E).xe := passes_of rfl
  have hu65 : (cxOf (L2.CX P w) P w K mg base N_faces_at "faces_at" (defScope s_faces_at) A.d_faces_at.f cdv AA outer s H E).A.units + 65 < cLine := by
    have := hr.un
    show (AA.deeper _).units + 65 < cLine
    omega
  have hu64 : (cxOf (L2.CX P w) P w K mg base N_faces_at "faces_at" (defScope s_faces_at) A.d_faces_at.f cdv AA outer s H E).A.units + 64 < cLine := Nat.lt_of_succ_lt hu65
  have hu1 : (cxOf (L2.CX P w) P w K mg base N_faces_at "faces_at" (defScope s_faces_at) A.d_faces_at.f cdv AA outer s H E).A.units + 1 < cLine := by omega
  exact vss_one (vs_ret (ve_lc (own := [("number", 2)]) rfl nd (vi_any (ve_var 1)) (blkOk_by (own := [("number", 2)]) (N := N_faces_at) (sc := defScope s_faces_at) (by decide +kernel)) (by decide) (fun _ _ _ _ _ => vg_name 2 nd) (fun _ _ _ _ _ => pts_yes) (fun _ _ _ _ _ => ve_ix id_ix (ve_ix id_ix (ve_var 0) (ve_int)) (ve_var 2)))))
def N_brought_by : List Str := ["faces", "face", "found", "point", "rest", "other"]
abbrev K_brought_by : Nat := 2
theorem nd_brought_by : (N_brought_by).Nodup := by decide +kernel
theorem sc_brought_by : FnScope N_brought_by ["faces", "face"] (defScope s_brought_by) := ⟨rfl, rfl, rfl, nd_brought_by, rfl, by decide +kernel, by decide +kernel⟩
def fB_brought_by : Ev Fl := sSeq (sSet 2 (xLst (xNil))) (sSeq (sFor (xIt (xVar 1)) (gN 3) (sSeq (sSet 4 (xLc (xIt (xVar 1)) (gN 5) (xCmpT gNe (xVar 5) (xVar 3)) (xVar 5) [5])) (sIf (xTr (xPure gAny (yCons (xLc (xIt (xVar 0)) (gN 5) (xYes) (xCall φ_within (yCons (xVar 4) (yCons (xVar 5) (yNil)))) [5]) (yNil)))) (sDo (xMutS isL mAppend (xVar 2) (xCons (xShK (xVar 3)) (xNil)))) (sSkip)))) (sRet (xPure gTuple (yCons (xVar 2) (yNil)))))
def φ_brought_by : Fn := runF 6 2 fB_brought_by
theorem ok_brought_by (A : All K mg) : FnOk P w K mg base (L2.CX P w) K_brought_by A.d_brought_by.f A.d_brought_by.fd ["faces", "face"] (spV K mg 2 φ_brought_by) :=
  fn_ok (N := N_brought_by) (k := 1) (n := 2) (fB := fB_brought_by) A.d_brought_by.F sc_brought_by rfl (by decide) (fun cdv AA outer s H E hr => by
  have nd := nd_brought_by
  have tk : Takes (cxOf (L2.CX P w) P w K mg base N_brought_by "brought_by" (defScope s_brought_by) A.d_brought_by.f cdv AA outer s H E) (fun cls d _ H => E cls d H) := takes_of rfl rfl rfl rfl
  have hp : PassesOwn (model P w) (cxOf (L2.CX P w) P w K mg base N_brought_by "brought_by" (defScope s_brought_by) A.d_brought_by.f cdv AA outer s H E).A (cxOf (L2.CX P w) P w K mg base N_brought_by "brought_by" (defScope s_brought_by) A.d_brought_by.f cdv AA outer s H E).env (cxOf (L2.CX P w) P w K mg base N_brought_by "brought_by" (defScope s_brought_by) A.d_brought_by.f cdv AA outer s H E).xe := passes_of rfl
  have hu65 : (cxOf (L2.CX P w) P w K mg base N_brought_by "brought_by" (defScope s_brought_by) A.d_brought_by.f cdv AA outer s H E).A.units + 65 < cLine := by
    have := hr.un
    show (AA.deeper _).units + 65 < cLine
    omega
  have hu64 : (cxOf (L2.CX P w) P w K mg base N_brought_by "brought_by" (defScope s_brought_by) A.d_brought_by.f cdv AA outer s H E).A.units + 64 < cLine := Nat.lt_of_succ_lt hu65
  have hu1 : (cxOf (L2.CX P w) P w K mg base N_brought_by "brought_by" (defScope s_brought_by) A.d_brought_by.f cdv AA outer s H E).A.units + 1 < cLine := by omega
  exact vss_cons (vs_set 2 nd (ve_lst (va_nil))) (vss_cons (vs_for hp rfl (vi_any (ve_var 1)) (vg_name 3 nd) (vss_cons (vs_set 4 nd (ve_lc (own := [("other", 5)]) rfl nd (vi_any (ve_var 1)) (blkOk_by (own := [("other", 5)]) (N := N_brought_by) (sc := defScope s_brought_by) (by decide +kernel)) (by decide) (fun _ _ _ _ _ => vg_name 5 nd) (fun _ _ _ _ _ => pts_if (vt_cmp (od_ne hu64) (ve_var 5) (ve_var 3))) (fun _ _ _ _ _ => ve_var 5))) (vss_one (vs_if (vt_tr (ve_callB (cd_any rfl) (by rfl) A.b_any bt_any (vb_cons (ve_lc (own := [("other", 5)]) rfl nd (vi_any (ve_var 0)) (blkOk_by (own := [("other", 5)]) (N := N_brought_by) (sc := defScope s_brought_by) (by decide +kernel)) (by decide) (fun _ _ _ _ _ => vg_name 5 nd) (fun _ _ _ _ _ => pts_yes) (fun _ _ _ _ _ => ve_call (ok_within A) (room_of (j := K_within) hr (by decide)) (by rfl) A.d_within.m A.d_within.F.kp A.d_within.b takes0 (vb_cons (ve_var 4) (vb_cons (ve_var 5) (vb_nil))) (len_cons (len_cons (len_nil))))) (vb_nil)))) (vss_one (vs_expr (ve_append (ve_var 2) (va_consK (ve_var 3) (va_nil))))) (vss_nil))))) (vss_one (vs_ret (ve_callTy cd_tuple (by rfl) A.b_tuple bt_tuple (vb_cons (ve_var 2) (vb_nil)))))))
def N_face_may : List Str := ["faces", "face", "some", "other", "point"]
abbrev K_face_may : Nat := 3
theorem nd_face_may : (N_face_may).Nodup := by decide +kernel
theorem sc_face_may : FnScope N_face_may ["faces", "face"] (defScope s_face_may) := ⟨rfl, rfl, rfl, nd_face_may, rfl, by decide +kernel, by decide +kernel⟩
def fB_face_may : Ev Fl := sSeq (sSet 2 (xCall φ_brought_by (yCons (xVar 0) (yCons (xVar 1) (yNil))))) (sRet (xPure gAll (yCons (xLc (xIt (xVar 0)) (gN 3) (xYes) (xPure gAny (yCons (xLc (xIt (xVar 2)) (gN 4) (xYes) (xBin gNin (xVar 4) (xVar 3)) [4]) (yNil))) [3]) (yNil))))
def φ_face_may : Fn := runF 5 2 fB_face_may
theorem ok_face_may (A : All K mg) : FnOk P w K mg base (L2.CX P w) K_face_may A.d_face_may.f A.d_face_may.fd ["faces", "face"] (spV K mg 2 φ_face_may) :=
  fn_ok (N := N_face_may) (k := 2) (n := 2) (fB := fB_face_may) A.d_face_may.F sc_face_may rfl (by decide) (fun cdv AA outer s H E hr => by
  have nd := nd_face_may
  have tk : Takes (cxOf (L2.CX P w) P w K mg base N_face_may "face_may" (defScope s_face_may) A.d_face_may.f cdv AA outer s H E) (fun cls d _ H => E cls d H) := takes_of rfl rfl rfl rfl
  have hp : PassesOwn (model P w) (cxOf (L2.CX P w) P w K mg base N_face_may "face_may" (defScope s_face_may) A.d_face_may.f cdv AA outer s H E).A (cxOf (L2.CX P w) P w K mg base N_face_may "face_may" (defScope s_face_may) A.d_face_may.f cdv AA outer s H E).env (cxOf (L2.CX P w) P w K mg base N_face_may "face_may" (defScope s_face_may) A.d_face_may.f cdv AA outer s H E).xe := passes_of rfl
  have hu65 : (cxOf (L2.CX P w) P w K mg base N_face_may "face_may" (defScope s_face_may) A.d_face_may.f cdv AA outer s H E).A.units + 65 < cLine := by
    have := hr.un
    show (AA.deeper _).units + 65 < cLine
    omega
  have hu64 : (cxOf (L2.CX P w) P w K mg base N_face_may "face_may" (defScope s_face_may) A.d_face_may.f cdv AA outer s H E).A.units + 64 < cLine := Nat.lt_of_succ_lt hu65
  have hu1 : (cxOf (L2.CX P w) P w K mg base N_face_may "face_may" (defScope s_face_may) A.d_face_may.f cdv AA outer s H E).A.units + 1 < cLine := by omega
  exact vss_cons (vs_set 2 nd (ve_call (ok_brought_by A) (room_of (j := K_brought_by) hr (by decide)) (by rfl) A.d_brought_by.m A.d_brought_by.F.kp A.d_brought_by.b tk (vb_cons (ve_var 0) (vb_cons (ve_var 1) (vb_nil))) (len_cons (len_cons (len_nil))))) (vss_one (vs_ret (ve_callB (cd_all rfl) (by rfl) A.b_all bt_all (vb_cons (ve_lc (own := [("other", 3)]) rfl nd (vi_any (ve_var 0)) (blkOk_by (own := [("other", 3)]) (N := N_face_may) (sc := defScope s_face_may) (by decide +kernel)) (by decide) (fun _ _ _ _ _ => vg_name 3 nd) (fun _ _ _ _ _ => pts_yes) (fun _ _ _ _ _ => ve_callB (cd_any rfl) (by rfl) A.b_any bt_any (vb_cons (ve_lc (own := [("point", 4)]) rfl nd (vi_any (ve_var 2)) (blkOk_by (own := [("point", 4)]) (by rfl)) (by decide) (fun _ _ _ _ _ => vg_name 4 nd) (fun _ _ _ _ _ => pts_yes) (fun _ _ _ _ _ => ve_cmp (od_nin hu65) (ve_var 4) (ve_var 3))) (vb_nil)))) (vb_nil))))))
def N_must_few : List Str := ["stack"]
abbrev K_must_few : Nat := 1
theorem nd_must_few : (N_must_few).Nodup := by decide +kernel
theorem sc_must_few : FnScope N_must_few ["stack"] (defScope s_must_few) := ⟨rfl, rfl, rfl, nd_must_few, rfl, by decide +kernel, by decide +kernel⟩
def fB_must_few : Ev Fl := sIf (xCmpT gGt (xPure gLen (yCons (xBin gIx (xVar 0) (xC (.int 2))) (yNil))) (xC (.int 9))) (xNone) (sSkip)
def φ_must_few : Fn := runF 1 1 fB_must_few
theorem ok_must_few (A : All K mg) : FnOk P w K mg base (L2.CX P w) K_must_few A.d_must_few.f A.d_must_few.fd ["stack"] (spV K mg 1 φ_must_few) :=
  fn_ok (N := N_must_few) (k := 0) (n := 1) (fB := fB_must_few) A.d_must_few.F sc_must_few rfl (by decide) (fun cdv AA outer s H E hr => by
  have nd := nd_must_few
  have tk : Takes (cxOf (L2.CX P w) P w K mg base N_must_few "must_few" (defScope s_must_few) A.d_must_few.f cdv AA outer s H E) (fun cls d _ H => E cls d H) := takes_of rfl rfl rfl rfl
  have hp : PassesOwn (model P w) (cxOf (L2.CX P w) P w K mg base N_must_few "must_few" (defScope s_must_few) A.d_must_few.f cdv AA outer s H E).A (cxOf (L2.CX P w) P w K mg base N_must_few "must_few" (defScope s_must_few) A.d_must_few.f cdv AA outer s H E).env (cxOf (L2.CX P w) P w K mg base N_must_few "must_few" (defScope s_must_few) A.d_must_few.f cdv AA outer s H E).xe := passes_of rfl
  have hu65 : (cxOf (L2.CX P w) P w K mg base N_must_few "must_few" (defScope s_must_few) A.d_must_few.f cdv AA outer s H E).A.units + 65 < cLine := by
    have := hr.un
    show (AA.deeper _).units + 65 < cLine
    omega
  have hu64 : (cxOf (L2.CX P w) P w K mg base N_must_few "must_few" (defScope s_must_few) A.d_must_few.f cdv AA outer s H E).A.units + 64 < cLine := Nat.lt_of_succ_lt hu65
  have hu1 : (cxOf (L2.CX P w) P w K mg base N_must_few "must_few" (defScope s_must_few) A.d_must_few.f cdv AA outer s H E).A.units + 1 < cLine := by omega
  exact vss_one (vs_if (vt_cmp od_gt (ve_callB cd_len (by rfl) A.b_len bt_len (vb_cons (ve_ix id_ix (ve_var 0) (ve_int)) (vb_nil))) (ve_globI (by rfl) A.c_MOST_SEARCHED)) (vss_one (vs_none)) (vss_nil)))
def N_must_searched : List Str := ["stack"]
abbrev K_must_searched : Nat := 7
theorem nd_must_searched : (N_must_searched).Nodup := by decide +kernel
theorem sc_must_searched : FnScope N_must_searched ["stack"] (defScope s_must_searched) := ⟨rfl, rfl, rfl, nd_must_searched, rfl, by decide +kernel, by decide +kernel⟩
def fB_must_searched : Ev Fl := sSeq (sDo (xCall φ_must_stack (yCons (xVar 0) (yNil)))) (sDo (xCall φ_must_few (yCons (xVar 0) (yNil))))
def φ_must_searched : Fn := runF 1 1 fB_must_searched
theorem ok_must_searched (A : All K mg) : FnOk P w K mg base (L2.CX P w) K_must_searched A.d_must_searched.f A.d_must_searched.fd ["stack"] (spV K mg 1 φ_must_searched) :=
  fn_ok (N := N_must_searched) (k := 6) (n := 1) (fB := fB_must_searched) A.d_must_searched.F sc_must_searched rfl (by decide) (fun cdv AA outer s H E hr => by
  have nd := nd_must_searched
  have tk : Takes (cxOf (L2.CX P w) P w K mg base N_must_searched "must_searched" (defScope s_must_searched) A.d_must_searched.f cdv AA outer s H E) (fun cls d _ H => E cls d H) := takes_of rfl rfl rfl rfl
  have hp : PassesOwn (model P w) (cxOf (L2.CX P w) P w K mg base N_must_searched "must_searched" (defScope s_must_searched) A.d_must_searched.f cdv AA outer s H E).A (cxOf (L2.CX P w) P w K mg base N_must_searched "must_searched" (defScope s_must_searched) A.d_must_searched.f cdv AA outer s H E).env (cxOf (L2.CX P w) P w K mg base N_must_searched "must_searched" (defScope s_must_searched) A.d_must_searched.f cdv AA outer s H E).xe := passes_of rfl
  have hu65 : (cxOf (L2.CX P w) P w K mg base N_must_searched "must_searched" (defScope s_must_searched) A.d_must_searched.f cdv AA outer s H E).A.units + 65 < cLine := by
    have := hr.un
    show (AA.deeper _).units + 65 < cLine
    omega
  have hu64 : (cxOf (L2.CX P w) P w K mg base N_must_searched "must_searched" (defScope s_must_searched) A.d_must_searched.f cdv AA outer s H E).A.units + 64 < cLine := Nat.lt_of_succ_lt hu65
  have hu1 : (cxOf (L2.CX P w) P w K mg base N_must_searched "must_searched" (defScope s_must_searched) A.d_must_searched.f cdv AA outer s H E).A.units + 1 < cLine := by omega
  exact vss_cons (vs_expr (ve_call (ok_must_stack A) (room_of (j := K_must_stack) hr (by decide)) (by rfl) A.d_must_stack.m A.d_must_stack.F.kp A.d_must_stack.b tk (vb_cons (ve_var 0) (vb_nil)) (len_cons (len_nil)))) (vss_one (vs_expr (ve_call (ok_must_few A) (room_of (j := K_must_few) hr (by decide)) (by rfl) A.d_must_few.m A.d_must_few.F.kp A.d_must_few.b tk (vb_cons (ve_var 0) (vb_nil)) (len_cons (len_nil))))))
def N_steps_on : List Str := ["stack", "lot", "faces", "others", "number"]
abbrev K_steps_on : Nat := 4
theorem nd_steps_on : (N_steps_on).Nodup := by decide +kernel
theorem sc_steps_on : FnScope N_steps_on ["stack", "lot"] (defScope s_steps_on) := ⟨rfl, rfl, rfl, nd_steps_on, rfl, by decide +kernel, by decide +kernel⟩
def fB_steps_on : Ev Fl := sSeq (sSet 2 (xCall φ_faces_at (yCons (xVar 0) (yCons (xVar 1) (yNil))))) (sSeq (sSet 3 (xLc (xRng (yCons (xPure gLen (yCons (xBin gIx (xVar 0) (xC (.int 2))) (yNil))) (yNil))) (gN 4) (xCmpT gNin (xVar 4) (xVar 1)) (xVar 4) [4])) (sRet (xLc (xIt (xVar 3)) (gN 4) (xTr (xCall φ_face_may (yCons (xVar 2) (yCons (xLn (xBin gIx (xBin gIx (xVar 0) (xC (.int 2))) (xVar 4))) (yNil))))) (xVar 4) [4])))
def φ_steps_on : Fn := runF 5 2 fB_steps_on
theorem ok_steps_on (A : All K mg) : FnOk P w K mg base (L2.CX P w) K_steps_on A.d_steps_on.f A.d_steps_on.fd ["stack", "lot"] (spV K mg 2 φ_steps_on) :=
  fn_ok (N := N_steps_on) (k := 3) (n := 2) (fB := fB_steps_on) A.d_steps_on.F sc_steps_on rfl (by decide) (fun cdv AA outer s H E hr => by
  have nd := nd_steps_on
  have tk : Takes (cxOf (L2.CX P w) P w K mg base N_steps_on "steps_on" (defScope s_steps_on) A.d_steps_on.f cdv AA outer s H E) (fun cls d _ H => E cls d H) := takes_of rfl rfl rfl rfl
  have hp : PassesOwn (model P w) (cxOf (L2.CX P w) P w K mg base N_steps_on "steps_on" (defScope s_steps_on) A.d_steps_on.f cdv AA outer s H E).A (cxOf (L2.CX P w) P w K mg base N_steps_on "steps_on" (defScope s_steps_on) A.d_steps_on.f cdv AA outer s H E).env (cxOf (L2.CX P w) P w K mg base N_steps_on "steps_on" (defScope s_steps_on) A.d_steps_on.f cdv AA outer s H E).xe := passes_of rfl
  have hu65 : (cxOf (L2.CX P w) P w K mg base N_steps_on "steps_on" (defScope s_steps_on) A.d_steps_on.f cdv AA outer s H E).A.units + 65 < cLine := by
    have := hr.un
    show (AA.deeper _).units + 65 < cLine
    omega
  have hu64 : (cxOf (L2.CX P w) P w K mg base N_steps_on "steps_on" (defScope s_steps_on) A.d_steps_on.f cdv AA outer s H E).A.units + 64 < cLine := Nat.lt_of_succ_lt hu65
  have hu1 : (cxOf (L2.CX P w) P w K mg base N_steps_on "steps_on" (defScope s_steps_on) A.d_steps_on.f cdv AA outer s H E).A.units + 1 < cLine := by omega
  exact vss_cons (vs_set 2 nd (ve_call (ok_faces_at A) (room_of (j := K_faces_at) hr (by decide)) (by rfl) A.d_faces_at.m A.d_faces_at.F.kp A.d_faces_at.b tk (vb_cons (ve_var 0) (vb_cons (ve_var 1) (vb_nil))) (len_cons (len_cons (len_nil))))) (vss_cons (vs_setLc 3 (own := [("number", 4)]) rfl nd (vi_range (by rfl) A.b_range (vb_cons (ve_callB cd_len (by rfl) A.b_len bt_len (vb_cons (ve_ix id_ix (ve_var 0) (ve_int)) (vb_nil))) (vb_nil))) (blkOk_by (own := [("number", 4)]) (N := N_steps_on) (sc := defScope s_steps_on) (by decide +kernel)) (by decide) (fun _ _ _ _ _ => vg_name 4 nd) (fun _ _ _ _ _ => pts_if (vt_cmp (od_nin hu65) (ve_var 4) (ve_var 1))) (fun _ _ _ _ _ => ve_var 4) (sw_true rfl rfl rfl (by decide +kernel))) (vss_one (vs_ret (ve_lc (own := [("number", 4)]) rfl nd (vi_any (ve_var 3)) (blkOk_by (own := [("number", 4)]) (N := N_steps_on) (sc := defScope s_steps_on) (by decide +kernel)) (by decide) (fun _ _ _ _ _ => vg_name 4 nd) (fun _ _ _ _ _ => pts_if (vt_tr (ve_call (ok_face_may A) (room_of (j := K_face_may) hr (by decide)) (by rfl) A.d_face_may.m A.d_face_may.F.kp A.d_face_may.b takes0 (vb_cons (ve_var 2) (vb_cons (ve_ln (ve_ix id_ix (ve_ix id_ix (ve_var 0) (ve_int)) (ve_var 4))) (vb_nil))) (len_cons (len_cons (len_nil)))))) (fun _ _ _ _ _ => ve_var 4))))))
def N_put_to : List Str := ["lot", "number"]
abbrev K_put_to : Nat := 1
theorem nd_put_to : (N_put_to).Nodup := by decide +kernel
theorem sc_put_to : FnScope N_put_to ["lot", "number"] (defScope s_put_to) := ⟨rfl, rfl, rfl, nd_put_to, rfl, by decide +kernel, by decide +kernel⟩
def fB_put_to : Ev Fl := sRet (xPure gTuple (yCons (xPure gSort (yCons (xBin gAdd (xVar 0) (xTup (xCons (xShK (xVar 1)) (xNil)))) (yNil))) (yNil)))
def φ_put_to : Fn := runF 2 2 fB_put_to
theorem ok_put_to (A : All K mg) : FnOk P w K mg base (L2.CX P w) K_put_to A.d_put_to.f A.d_put_to.fd ["lot", "number"] (spV K mg 2 φ_put_to) :=
  fn_ok (N := N_put_to) (k := 0) (n := 2) (fB := fB_put_to) A.d_put_to.F sc_put_to rfl (by decide) (fun cdv AA outer s H E hr => by
  have nd := nd_put_to
  have tk : Takes (cxOf (L2.CX P w) P w K mg base N_put_to "put_to" (defScope s_put_to) A.d_put_to.f cdv AA outer s H E) (fun cls d _ H => E cls d H) := takes_of rfl rfl rfl rfl
  have hp : PassesOwn (model P w) (cxOf (L2.CX P w) P w K mg base N_put_to "put_to" (defScope s_put_to) A.d_put_to.f cdv AA outer s H E).A (cxOf (L2.CX P w) P w K mg base N_put_to "put_to" (defScope s_put_to) A.d_put_to.f cdv AA outer s H E).env (cxOf (L2.CX P w) P w K mg base N_put_to "put_to" (defScope s_put_to) A.d_put_to.f cdv AA outer s H E).xe := passes_of rfl
  have hu65 : (cxOf (L2.CX P w) P w K mg base N_put_to "put_to" (defScope s_put_to) A.d_put_to.f cdv AA outer s H E).A.units + 65 < cLine := by
    have := hr.un
    show (AA.deeper _).units + 65 < cLine
    omega
  have hu64 : (cxOf (L2.CX P w) P w K mg base N_put_to "put_to" (defScope s_put_to) A.d_put_to.f cdv AA outer s H E).A.units + 64 < cLine := Nat.lt_of_succ_lt hu65
  have hu1 : (cxOf (L2.CX P w) P w K mg base N_put_to "put_to" (defScope s_put_to) A.d_put_to.f cdv AA outer s H E).A.units + 1 < cLine := by omega
  exact vss_one (vs_ret (ve_callTy cd_tuple (by rfl) A.b_tuple bt_tuple (vb_cons (ve_callB (cr_sort rfl hu64) (by rfl) A.b_sorted bt_sorted (vb_cons (ve_op od_add (ve_var 0) (ve_tup (va_consK (ve_var 1) (va_nil)))) (vb_nil))) (vb_nil)))))
def N_laid_of : List Str := ["stack", "found", "layer", "later", "lot", "number", "more"]
abbrev K_laid_of : Nat := 5
theorem nd_laid_of : (N_laid_of).Nodup := by decide +kernel
theorem sc_laid_of : FnScope N_laid_of ["stack"] (defScope s_laid_of) := ⟨rfl, rfl, rfl, nd_laid_of, rfl, by decide +kernel, by decide +kernel⟩
def fB_laid_of : Ev Fl := sSeq (sSet 1 (xDisp1 true (xTup (xNil)) (xC (.int 1)))) (sSeq (sSet 2 (xDisp1 true (xTup (xNil)) (xC (.int 1)))) (sSeq (sWhile 1000 (xCmpT gNeE (xVar 2) (xDt)) (sSeq (sSet 3 (xDt)) (sSeq (sFor (xIt (xVar 2)) (gN 4) (sFor (xIt (xCall φ_steps_on (yCons (xVar 0) (yCons (xVar 4) (yNil))))) (gN 5) (sSeq (sSet 6 (xCall φ_put_to (yCons (xVar 4) (yCons (xVar 5) (yNil))))) (sDput (xVar 3) (xVar 6) (xBin gAdd (xGet2 (xVar 3) (xVar 6) (xC (.int 0))) (xBin gDget (xVar 2) (xVar 4))))))) (sSeq (sDo (xMutB isDict mUpd (xVar 1) (yCons (xVar 3) (yNil)))) (sSet 2 (xVar 3)))))) (sRet (xVar 1))))
def φ_laid_of : Fn := runF 7 1 fB_laid_of
theorem ok_laid_of (A : All K mg) : FnOk P w K mg base (L2.CX P w) K_laid_of A.d_laid_of.f A.d_laid_of.fd ["stack"] (spV K mg 1 φ_laid_of) :=
  fn_ok (N := N_laid_of) (k := 4) (n := 1) (fB := fB_laid_of) A.d_laid_of.F sc_laid_of rfl (by decide) (fun cdv AA outer s H E hr => by
  have nd := nd_laid_of
  have tk : Takes (cxOf (L2.CX P w) P w K mg base N_laid_of "laid_of" (defScope s_laid_of) A.d_laid_of.f cdv AA outer s H E) (fun cls d _ H => E cls d H) := takes_of rfl rfl rfl rfl
  have hp : PassesOwn (model P w) (cxOf (L2.CX P w) P w K mg base N_laid_of "laid_of" (defScope s_laid_of) A.d_laid_of.f cdv AA outer s H E).A (cxOf (L2.CX P w) P w K mg base N_laid_of "laid_of" (defScope s_laid_of) A.d_laid_of.f cdv AA outer s H E).env (cxOf (L2.CX P w) P w K mg base N_laid_of "laid_of" (defScope s_laid_of) A.d_laid_of.f cdv AA outer s H E).xe := passes_of rfl
  have hu65 : (cxOf (L2.CX P w) P w K mg base N_laid_of "laid_of" (defScope s_laid_of) A.d_laid_of.f cdv AA outer s H E).A.units + 65 < cLine := by
    have := hr.un
    show (AA.deeper _).units + 65 < cLine
    omega
  have hu64 : (cxOf (L2.CX P w) P w K mg base N_laid_of "laid_of" (defScope s_laid_of) A.d_laid_of.f cdv AA outer s H E).A.units + 64 < cLine := Nat.lt_of_succ_lt hu65
  have hu1 : (cxOf (L2.CX P w) P w K mg base N_laid_of "laid_of" (defScope s_laid_of) A.d_laid_of.f cdv AA outer s H E).A.units + 1 < cLine := by omega
  exact vss_cons (vs_set 1 nd (ve_disp1T hu64 (ve_tup (va_nil)) (ve_int))) (vss_cons (vs_set 2 nd (ve_disp1T hu64 (ve_tup (va_nil)) (ve_int))) (vss_cons (vs_while 1000 hp (vt_cmp (od_neE hu64) (ve_var 2) (ve_dt)) (vss_cons (vs_set 3 nd (ve_dt)) (vss_cons (vs_for hp rfl (vi_any (ve_var 2)) (vg_name 4 nd) (vss_one (vs_for hp rfl (vi_any (ve_call (ok_steps_on A) (room_of (j := K_steps_on) hr (by decide)) (by rfl) A.d_steps_on.m A.d_steps_on.F.kp A.d_steps_on.b tk (vb_cons (ve_var 0) (vb_cons (ve_var 4) (vb_nil))) (len_cons (len_cons (len_nil))))) (vg_name 5 nd) (vss_cons (vs_set 6 nd (ve_call (ok_put_to A) (room_of (j := K_put_to) hr (by decide)) (by rfl) A.d_put_to.m A.d_put_to.F.kp A.d_put_to.b tk (vb_cons (ve_var 4) (vb_cons (ve_var 5) (vb_nil))) (len_cons (len_cons (len_nil))))) (vss_one (vs_dput hu1 (ve_var 3) (ve_var 6) (ve_op od_add (ve_get2 hu1 (ve_var 3) (ve_var 6) (ve_int)) (ve_dget hu1 (ve_var 2) (ve_var 4))))))))) (vss_cons (vs_expr (ve_upd hu64 (ve_var 1) (vb_cons (ve_var 3) (vb_nil)))) (vss_one (vs_set 2 nd (ve_var 3))))))) (vss_one (vs_ret (ve_var 1))))))
def N_laid_lots : List Str := ["stack"]
abbrev K_laid_lots : Nat := 8
theorem nd_laid_lots : (N_laid_lots).Nodup := by decide +kernel
theorem sc_laid_lots : FnScope N_laid_lots ["stack"] (defScope s_laid_lots) := ⟨rfl, rfl, rfl, nd_laid_lots, rfl, by decide +kernel, by decide +kernel⟩
def fB_laid_lots : Ev Fl := sSeq (sDo (xCall φ_must_searched (yCons (xVar 0) (yNil)))) (sRet (xPure gSort (yCons (xCall φ_laid_of (yCons (xVar 0) (yNil))) (yNil))))
def φ_laid_lots : Fn := runF 1 1 fB_laid_lots
theorem ok_laid_lots (A : All K mg) : FnOk P w K mg base (L2.CX P w) K_laid_lots A.d_laid_lots.f A.d_laid_lots.fd ["stack"] (spV K mg 1 φ_laid_lots) :=
  fn_ok (N := N_laid_lots) (k := 7) (n := 1) (fB := fB_laid_lots) A.d_laid_lots.F sc_laid_lots rfl (by decide) (fun cdv AA outer s H E hr => by
  have nd := nd_laid_lots
  have tk : Takes (cxOf (L2.CX P w) P w K mg base N_laid_lots "laid_lots" (defScope s_laid_lots) A.d_laid_lots.f cdv AA outer s H E) (fun cls d _ H => E cls d H) := takes_of rfl rfl rfl rfl
  have hp : PassesOwn (model P w) (cxOf (L2.CX P w) P w K mg base N_laid_lots "laid_lots" (defScope s_laid_lots) A.d_laid_lots.f cdv AA outer s H E).A (cxOf (L2.CX P w) P w K mg base N_laid_lots "laid_lots" (defScope s_laid_lots) A.d_laid_lots.f cdv AA outer s H E).env (cxOf (L2.CX P w) P w K mg base N_laid_lots "laid_lots" (defScope s_laid_lots) A.d_laid_lots.f cdv AA outer s H E).xe := passes_of rfl
  have hu65 : (cxOf (L2.CX P w) P w K mg base N_laid_lots "laid_lots" (defScope s_laid_lots) A.d_laid_lots.f cdv AA outer s H E).A.units + 65 < cLine := by
    have := hr.un
    show (AA.deeper _).units + 65 < cLine
    omega
  have hu64 : (cxOf (L2.CX P w) P w K mg base N_laid_lots "laid_lots" (defScope s_laid_lots) A.d_laid_lots.f cdv AA outer s H E).A.units + 64 < cLine := Nat.lt_of_succ_lt hu65
  have hu1 : (cxOf (L2.CX P w) P w K mg base N_laid_lots "laid_lots" (defScope s_laid_lots) A.d_laid_lots.f cdv AA outer s H E).A.units + 1 < cLine := by omega
  exact vss_cons (vs_expr (ve_call (ok_must_searched A) (room_of (j := K_must_searched) hr (by decide)) (by rfl) A.d_must_searched.m A.d_must_searched.F.kp A.d_must_searched.b tk (vb_cons (ve_var 0) (vb_nil)) (len_cons (len_nil)))) (vss_one (vs_ret (ve_callB (cr_sort rfl hu64) (by rfl) A.b_sorted bt_sorted (vb_cons (ve_call (ok_laid_of A) (room_of (j := K_laid_of) hr (by decide)) (by rfl) A.d_laid_of.m A.d_laid_of.F.kp A.d_laid_of.b tk (vb_cons (ve_var 0) (vb_nil)) (len_cons (len_nil))) (vb_nil))))))
def N_most_laid : List Str := ["stack", "lot"]
abbrev K_most_laid : Nat := 8
theorem nd_most_laid : (N_most_laid).Nodup := by decide +kernel
theorem sc_most_laid : FnScope N_most_laid ["stack"] (defScope s_most_laid) := ⟨rfl, rfl, rfl, nd_most_laid, rfl, by decide +kernel, by decide +kernel⟩
def fB_most_laid : Ev Fl := sSeq (sDo (xCall φ_must_searched (yCons (xVar 0) (yNil)))) (sRet (xPure gMax (yCons (xLc (xIt (xCall φ_laid_of (yCons (xVar 0) (yNil)))) (gN 1) (xYes) (xPure gLen (yCons (xVar 1) (yNil))) [1]) (yNil))))
def φ_most_laid : Fn := runF 2 1 fB_most_laid
theorem ok_most_laid (A : All K mg) : FnOk P w K mg base (L2.CX P w) K_most_laid A.d_most_laid.f A.d_most_laid.fd ["stack"] (spV K mg 1 φ_most_laid) :=
  fn_ok (N := N_most_laid) (k := 7) (n := 1) (fB := fB_most_laid) A.d_most_laid.F sc_most_laid rfl (by decide) (fun cdv AA outer s H E hr => by
  have nd := nd_most_laid
  have tk : Takes (cxOf (L2.CX P w) P w K mg base N_most_laid "most_laid" (defScope s_most_laid) A.d_most_laid.f cdv AA outer s H E) (fun cls d _ H => E cls d H) := takes_of rfl rfl rfl rfl
  have hp : PassesOwn (model P w) (cxOf (L2.CX P w) P w K mg base N_most_laid "most_laid" (defScope s_most_laid) A.d_most_laid.f cdv AA outer s H E).A (cxOf (L2.CX P w) P w K mg base N_most_laid "most_laid" (defScope s_most_laid) A.d_most_laid.f cdv AA outer s H E).env (cxOf (L2.CX P w) P w K mg base N_most_laid "most_laid" (defScope s_most_laid) A.d_most_laid.f cdv AA outer s H E).xe := passes_of rfl
  have hu65 : (cxOf (L2.CX P w) P w K mg base N_most_laid "most_laid" (defScope s_most_laid) A.d_most_laid.f cdv AA outer s H E).A.units + 65 < cLine := by
    have := hr.un
    show (AA.deeper _).units + 65 < cLine
    omega
  have hu64 : (cxOf (L2.CX P w) P w K mg base N_most_laid "most_laid" (defScope s_most_laid) A.d_most_laid.f cdv AA outer s H E).A.units + 64 < cLine := Nat.lt_of_succ_lt hu65
  have hu1 : (cxOf (L2.CX P w) P w K mg base N_most_laid "most_laid" (defScope s_most_laid) A.d_most_laid.f cdv AA outer s H E).A.units + 1 < cLine := by omega
  exact vss_cons (vs_expr (ve_call (ok_must_searched A) (room_of (j := K_must_searched) hr (by decide)) (by rfl) A.d_must_searched.m A.d_must_searched.F.kp A.d_must_searched.b tk (vb_cons (ve_var 0) (vb_nil)) (len_cons (len_nil)))) (vss_one (vs_ret (ve_callB (cd_max rfl) (by rfl) A.b_max bt_max (vb_cons (ve_lc (own := [("lot", 1)]) rfl nd (vi_any (ve_call (ok_laid_of A) (room_of (j := K_laid_of) hr (by decide)) (by rfl) A.d_laid_of.m A.d_laid_of.F.kp A.d_laid_of.b tk (vb_cons (ve_var 0) (vb_nil)) (len_cons (len_nil)))) (blkOk_by (own := [("lot", 1)]) (N := N_most_laid) (sc := defScope s_most_laid) (by decide +kernel)) (by decide) (fun _ _ _ _ _ => vg_name 1 nd) (fun _ _ _ _ _ => pts_yes) (fun _ _ _ _ _ => ve_callB cd_len (by rfl) A.b_len bt_len (vb_cons (ve_var 1) (vb_nil)))) (vb_nil))))))
def N_stuck_lots : List Str := ["stack", "found", "lot"]
abbrev K_stuck_lots : Nat := 8
theorem nd_stuck_lots : (N_stuck_lots).Nodup := by decide +kernel
theorem sc_stuck_lots : FnScope N_stuck_lots ["stack"] (defScope s_stuck_lots) := ⟨rfl, rfl, rfl, nd_stuck_lots, rfl, by decide +kernel, by decide +kernel⟩
def fB_stuck_lots : Ev Fl := sSeq (sDo (xCall φ_must_searched (yCons (xVar 0) (yNil)))) (sSeq (sSet 1 (xLc (xIt (xCall φ_laid_of (yCons (xVar 0) (yNil)))) (gN 2) (xCmpT gLt (xPure gLen (yCons (xVar 2) (yNil))) (xPure gLen (yCons (xBin gIx (xVar 0) (xC (.int 2))) (yNil)))) (xVar 2) [2])) (sRet (xPure gSort (yCons (xLc (xIt (xVar 1)) (gN 2) (xCmpT gEq (xCall φ_steps_on (yCons (xVar 0) (yCons (xVar 2) (yNil)))) (xLst (xNil))) (xVar 2) [2]) (yNil)))))
def φ_stuck_lots : Fn := runF 3 1 fB_stuck_lots
theorem ok_stuck_lots (A : All K mg) : FnOk P w K mg base (L2.CX P w) K_stuck_lots A.d_stuck_lots.f A.d_stuck_lots.fd ["stack"] (spV K mg 1 φ_stuck_lots) :=
  fn_ok (N := N_stuck_lots) (k := 7) (n := 1) (fB := fB_stuck_lots) A.d_stuck_lots.F sc_stuck_lots rfl (by decide) (fun cdv AA outer s H E hr => by
  have nd := nd_stuck_lots
  have tk : Takes (cxOf (L2.CX P w) P w K mg base N_stuck_lots "stuck_lots" (defScope s_stuck_lots) A.d_stuck_lots.f cdv AA outer s H E) (fun cls d _ H => E cls d H) := takes_of rfl rfl rfl rfl
  have hp : PassesOwn (model P w) (cxOf (L2.CX P w) P w K mg base N_stuck_lots "stuck_lots" (defScope s_stuck_lots) A.d_stuck_lots.f cdv AA outer s H E).A (cxOf (L2.CX P w) P w K mg base N_stuck_lots "stuck_lots" (defScope s_stuck_lots) A.d_stuck_lots.f cdv AA outer s H E).env (cxOf (L2.CX P w) P w K mg base N_stuck_lots "stuck_lots" (defScope s_stuck_lots) A.d_stuck_lots.f cdv AA outer s H E).xe := passes_of rfl
  have hu65 : (cxOf (L2.CX P w) P w K mg base N_stuck_lots "stuck_lots" (defScope s_stuck_lots) A.d_stuck_lots.f cdv AA outer s H E).A.units + 65 < cLine := by
    have := hr.un
    show (AA.deeper _).units + 65 < cLine
    omega
  have hu64 : (cxOf (L2.CX P w) P w K mg base N_stuck_lots "stuck_lots" (defScope s_stuck_lots) A.d_stuck_lots.f cdv AA outer s H E).A.units + 64 < cLine := Nat.lt_of_succ_lt hu65
  have hu1 : (cxOf (L2.CX P w) P w K mg base N_stuck_lots "stuck_lots" (defScope s_stuck_lots) A.d_stuck_lots.f cdv AA outer s H E).A.units + 1 < cLine := by omega
  exact vss_cons (vs_expr (ve_call (ok_must_searched A) (room_of (j := K_must_searched) hr (by decide)) (by rfl) A.d_must_searched.m A.d_must_searched.F.kp A.d_must_searched.b tk (vb_cons (ve_var 0) (vb_nil)) (len_cons (len_nil)))) (vss_cons (vs_setLc 1 (own := [("lot", 2)]) rfl nd (vi_any (ve_call (ok_laid_of A) (room_of (j := K_laid_of) hr (by decide)) (by rfl) A.d_laid_of.m A.d_laid_of.F.kp A.d_laid_of.b tk (vb_cons (ve_var 0) (vb_nil)) (len_cons (len_nil)))) (blkOk_by (own := [("lot", 2)]) (N := N_stuck_lots) (sc := defScope s_stuck_lots) (by decide +kernel)) (by decide) (fun _ _ _ _ _ => vg_name 2 nd) (fun _ _ _ _ _ => pts_if (vt_cmp (od_lt hu64) (ve_callB cd_len (by rfl) A.b_len bt_len (vb_cons (ve_var 2) (vb_nil))) (ve_callB cd_len (by rfl) A.b_len bt_len (vb_cons (ve_ix id_ix (ve_var 0) (ve_int)) (vb_nil))))) (fun _ _ _ _ _ => ve_var 2) (sw_true rfl rfl rfl (by decide +kernel))) (vss_one (vs_ret (ve_callB (cr_sort rfl hu64) (by rfl) A.b_sorted bt_sorted (vb_cons (ve_lc (own := [("lot", 2)]) rfl nd (vi_any (ve_var 1)) (blkOk_by (own := [("lot", 2)]) (N := N_stuck_lots) (sc := defScope s_stuck_lots) (by decide +kernel)) (by decide) (fun _ _ _ _ _ => vg_name 2 nd) (fun _ _ _ _ _ => pts_if (vt_cmp (od_eq hu64) (ve_call (ok_steps_on A) (room_of (j := K_steps_on) hr (by decide)) (by rfl) A.d_steps_on.m A.d_steps_on.F.kp A.d_steps_on.b takes0 (vb_cons (ve_var 0) (vb_cons (ve_var 2) (vb_nil))) (len_cons (len_cons (len_nil)))) (ve_lst (va_nil)))) (fun _ _ _ _ _ => ve_var 2)) (vb_nil)))))))
def N__law_same : List Str := ["_law_found", "_law_due", "_law_one", "_law_other"]
abbrev K__law_same : Nat := 6
theorem nd__law_same : (N__law_same).Nodup := by decide +kernel
theorem sc__law_same : FnScope N__law_same ["_law_found", "_law_due"] (defScope s__law_same) := ⟨rfl, rfl, rfl, nd__law_same, rfl, by decide +kernel, by decide +kernel⟩
def fB__law_same (φr : Fn) : Ev Fl := sSeq (sIf (xCmpT gIs (xVar 1) (xC .non)) (sRet (xBin gIs (xVar 0) (xC .non))) (sSkip)) (sSeq (sIf (xTr (xIsi (kitB2 "list" "tuple") (xVar 1))) (sSeq (sIf (xCmpT gNe (xIsi (fun t => kitB t "list") (xVar 1)) (xIsi (fun t => kitB t "list") (xVar 0))) (sRet (xC (.bl false))) (sSkip)) (sSeq (sIf (xOr (xCmpT gNe (xIsi (fun t => kitB t "tuple") (xVar 1)) (xIsi (fun t => kitB t "tuple") (xVar 0))) (xCmpT gNe (xPure gLen (yCons (xVar 0) (yNil))) (xPure gLen (yCons (xVar 1) (yNil))))) (sRet (xC (.bl false))) (sSkip)) (sRet (xPure gAll (yCons (xLc (xZip (yCons (xVar 0) (yCons (xVar 1) (yNil)))) (gT [2, 3]) (xYes) (xCall φr (yCons (xVar 2) (yCons (xVar 3) (yNil)))) [2, 3]) (yNil)))))) (sSkip)) (sSeq (sIf (xTr (xIsi (fun t => kitB t "str") (xVar 1))) (sRet (xAndV (xIsi (fun t => kitB t "str") (xVar 0)) (xBin gEq (xVar 0) (xVar 1)))) (sSkip)) (sSeq (sIf (xCmpT gNe (xIsi (fun t => kitB t "bool") (xVar 0)) (xIsi (fun t => kitB t "bool") (xVar 1))) (sRet (xC (.bl false))) (sSkip)) (sRet (xAndV (xIsi (fun t => kitB t "int") (xVar 0)) (xBin gEq (xVar 0) (xVar 1)))))))
def φ__law_same : Nat → Fn
  | 0 => fun _ => none
  | n + 1 => runF 4 2 (fB__law_same (φ__law_same n))
theorem ok__law_same (A : All K mg) : ∀ k, FnOk P w K mg base (L2.CX P w) k A.d__law_same.f A.d__law_same.fd ["_law_found", "_law_due"] (spV K mg 2 (φ__law_same k))
  | 0 => fn_none rfl
  | k + 1 => by
    have okr := ok__law_same A k
    exact fn_ok (N := N__law_same) (n := 2) (fB := fB__law_same (φ__law_same k)) A.d__law_same.F sc__law_same rfl (by decide) (fun cdv AA outer s H E hr => by
  have nd := nd__law_same
  have tk : Takes (cxOf (L2.CX P w) P w K mg base N__law_same "_law_same" (defScope s__law_same) A.d__law_same.f cdv AA outer s H E) (fun cls d _ H => E cls d H) := takes_of rfl rfl rfl rfl
  have hp : PassesOwn (model P w) (cxOf (L2.CX P w) P w K mg base N__law_same "_law_same" (defScope s__law_same) A.d__law_same.f cdv AA outer s H E).A (cxOf (L2.CX P w) P w K mg base N__law_same "_law_same" (defScope s__law_same) A.d__law_same.f cdv AA outer s H E).env (cxOf (L2.CX P w) P w K mg base N__law_same "_law_same" (defScope s__law_same) A.d__law_same.f cdv AA outer s H E).xe := passes_of rfl
  have hu65 : (cxOf (L2.CX P w) P w K mg base N__law_same "_law_same" (defScope s__law_same) A.d__law_same.f cdv AA outer s H E).A.units + 65 < cLine := by
    have := hr.un
    show (AA.deeper _).units + 65 < cLine
    omega
  have hu64 : (cxOf (L2.CX P w) P w K mg base N__law_same "_law_same" (defScope s__law_same) A.d__law_same.f cdv AA outer s H E).A.units + 64 < cLine := Nat.lt_of_succ_lt hu65
  have hu1 : (cxOf (L2.CX P w) P w K mg base N__law_same "_law_same" (defScope s__law_same) A.d__law_same.f cdv AA outer s H E).A.units + 1 < cLine := by omega
  exact vss_cons (vs_if (vt_cmp od_is (ve_var 1) (ve_non)) (vss_one (vs_ret (ve_cmp od_is (ve_var 0) (ve_non)))) (vss_nil)) (vss_cons (vs_if (vt_tr (ve_isi2 (ve_var 1) (by rfl) A.b_isinstance (by rfl) A.b_list bt_list (by rfl) A.b_tuple bt_tuple)) (vss_cons (vs_if (vt_cmp (od_ne hu64) (ve_isi (ve_var 1) (by rfl) A.b_isinstance (by rfl) A.b_list bt_list) (ve_isi (ve_var 0) (by rfl) A.b_isinstance (by rfl) A.b_list bt_list)) (vss_one (vs_ret (ve_bl))) (vss_nil)) (vss_cons (vs_if (VW.vt (vw_or (vt_cmp (od_ne hu64) (ve_isi (ve_var 1) (by rfl) A.b_isinstance (by rfl) A.b_tuple bt_tuple) (ve_isi (ve_var 0) (by rfl) A.b_isinstance (by rfl) A.b_tuple bt_tuple)) (vw_or1 (vt_cmp (od_ne hu64) (ve_callB cd_len (by rfl) A.b_len bt_len (vb_cons (ve_var 0) (vb_nil))) (ve_callB cd_len (by rfl) A.b_len bt_len (vb_cons (ve_var 1) (vb_nil))))))) (vss_one (vs_ret (ve_bl))) (vss_nil)) (vss_one (vs_ret (ve_callB (cd_all rfl) (by rfl) A.b_all bt_all (vb_cons (ve_lc (own := [("_law_one", 2), ("_law_other", 3)]) rfl nd (vi_zip (by rfl) A.b_zip (vb_cons (ve_var 0) (vb_cons (ve_var 1) (vb_nil)))) (blkOk_by (own := [("_law_one", 2), ("_law_other", 3)]) (N := N__law_same) (sc := defScope s__law_same) (by decide +kernel)) (by decide) (fun _ _ _ _ _ => vg_tup rfl (vn_cons 2 nd (vn_cons 3 nd (vn_nil)))) (fun _ _ _ _ _ => pts_yes) (fun _ _ _ _ _ => ve_call okr hr (by rfl) A.d__law_same.m A.d__law_same.F.kp A.d__law_same.b takes0 (vb_cons (ve_var 2) (vb_cons (ve_var 3) (vb_nil))) (len_cons (len_cons (len_nil))))) (vb_nil))))))) (vss_nil)) (vss_cons (vs_if (vt_tr (ve_isi (ve_var 1) (by rfl) A.b_isinstance (by rfl) A.b_str bt_str)) (vss_one (vs_ret (ve_and (ve_isi (ve_var 0) (by rfl) A.b_isinstance (by rfl) A.b_str bt_str) (ve_one (op := .And) (ve_cmp (od_eq hu64) (ve_var 0) (ve_var 1)))))) (vss_nil)) (vss_cons (vs_if (vt_cmp (od_ne hu64) (ve_isi (ve_var 0) (by rfl) A.b_isinstance (by rfl) A.b_bool bt_bool) (ve_isi (ve_var 1) (by rfl) A.b_isinstance (by rfl) A.b_bool bt_bool)) (vss_one (vs_ret (ve_bl))) (vss_nil)) (vss_one (vs_ret (ve_and (ve_isi (ve_var 0) (by rfl) A.b_isinstance (by rfl) A.b_int bt_int) (ve_one (op := .And) (ve_cmp (od_eq hu64) (ve_var 0) (ve_var 1))))))))))
def N__law_cell : List Str := ["_law_script", "_law_k"]
abbrev K__law_cell : Nat := 1
theorem nd__law_cell : (N__law_cell).Nodup := by decide +kernel
theorem sc__law_cell : FnScope N__law_cell ["_law_script", "_law_k"] (defScope s__law_cell) := ⟨rfl, rfl, rfl, nd__law_cell, rfl, by decide +kernel, by decide +kernel⟩
def fB__law_cell : Ev Fl := sSeq (sIf (xCmpT gLt (xVar 1) (xPure gLen (yCons (xVar 0) (yNil)))) (sRet (xBin gIx (xVar 0) (xVar 1))) (sSkip)) (sRet (xC (.int 0)))
def φ__law_cell : Fn := runF 2 2 fB__law_cell
theorem ok__law_cell (A : All K mg) : FnOk P w K mg base (L2.CX P w) K__law_cell A.d__law_cell.f A.d__law_cell.fd ["_law_script", "_law_k"] (spV K mg 2 φ__law_cell) :=
  fn_ok (N := N__law_cell) (k := 0) (n := 2) (fB := fB__law_cell) A.d__law_cell.F sc__law_cell rfl (by decide) (fun cdv AA outer s H E hr => by
  have nd := nd__law_cell
  have tk : Takes (cxOf (L2.CX P w) P w K mg base N__law_cell "_law_cell" (defScope s__law_cell) A.d__law_cell.f cdv AA outer s H E) (fun cls d _ H => E cls d H) := takes_of rfl rfl rfl rfl
  have hp : PassesOwn (model P w) (cxOf (L2.CX P w) P w K mg base N__law_cell "_law_cell" (defScope s__law_cell) A.d__law_cell.f cdv AA outer s H E).A (cxOf (L2.CX P w) P w K mg base N__law_cell "_law_cell" (defScope s__law_cell) A.d__law_cell.f cdv AA outer s H E).env (cxOf (L2.CX P w) P w K mg base N__law_cell "_law_cell" (defScope s__law_cell) A.d__law_cell.f cdv AA outer s H E).xe := passes_of rfl
  have hu65 : (cxOf (L2.CX P w) P w K mg base N__law_cell "_law_cell" (defScope s__law_cell) A.d__law_cell.f cdv AA outer s H E).A.units + 65 < cLine := by
    have := hr.un
    show (AA.deeper _).units + 65 < cLine
    omega
  have hu64 : (cxOf (L2.CX P w) P w K mg base N__law_cell "_law_cell" (defScope s__law_cell) A.d__law_cell.f cdv AA outer s H E).A.units + 64 < cLine := Nat.lt_of_succ_lt hu65
  have hu1 : (cxOf (L2.CX P w) P w K mg base N__law_cell "_law_cell" (defScope s__law_cell) A.d__law_cell.f cdv AA outer s H E).A.units + 1 < cLine := by omega
  exact vss_cons (vs_if (vt_cmp (od_lt hu64) (ve_var 1) (ve_callB cd_len (by rfl) A.b_len bt_len (vb_cons (ve_var 0) (vb_nil)))) (vss_one (vs_ret (ve_ix id_ix (ve_var 0) (ve_var 1)))) (vss_nil)) (vss_one (vs_ret (ve_int))))
def N__law_pen : List Str := ["_law_cell_here"]
abbrev K__law_pen : Nat := 1
theorem nd__law_pen : (N__law_pen).Nodup := by decide +kernel
theorem sc__law_pen : FnScope N__law_pen ["_law_cell_here"] (defScope s__law_pen) := ⟨rfl, rfl, rfl, nd__law_pen, rfl, by decide +kernel, by decide +kernel⟩
def fB__law_pen : Ev Fl := sRet (xLst (xCons (xShK (xVar 0)) (xCons (xSh (xPure gInt (yCons (xBin gGe (xVar 0) (xBin gPow (xC (.int 10)) (xC (.int 18)))) (yNil)))) (xNil))))
def φ__law_pen : Fn := runF 1 1 fB__law_pen
theorem ok__law_pen (A : All K mg) : FnOk P w K mg base (L2.CX P w) K__law_pen A.d__law_pen.f A.d__law_pen.fd ["_law_cell_here"] (spV K mg 1 φ__law_pen) :=
  fn_ok (N := N__law_pen) (k := 0) (n := 1) (fB := fB__law_pen) A.d__law_pen.F sc__law_pen rfl (by decide) (fun cdv AA outer s H E hr => by
  have nd := nd__law_pen
  have tk : Takes (cxOf (L2.CX P w) P w K mg base N__law_pen "_law_pen" (defScope s__law_pen) A.d__law_pen.f cdv AA outer s H E) (fun cls d _ H => E cls d H) := takes_of rfl rfl rfl rfl
  have hp : PassesOwn (model P w) (cxOf (L2.CX P w) P w K mg base N__law_pen "_law_pen" (defScope s__law_pen) A.d__law_pen.f cdv AA outer s H E).A (cxOf (L2.CX P w) P w K mg base N__law_pen "_law_pen" (defScope s__law_pen) A.d__law_pen.f cdv AA outer s H E).env (cxOf (L2.CX P w) P w K mg base N__law_pen "_law_pen" (defScope s__law_pen) A.d__law_pen.f cdv AA outer s H E).xe := passes_of rfl
  have hu65 : (cxOf (L2.CX P w) P w K mg base N__law_pen "_law_pen" (defScope s__law_pen) A.d__law_pen.f cdv AA outer s H E).A.units + 65 < cLine := by
    have := hr.un
    show (AA.deeper _).units + 65 < cLine
    omega
  have hu64 : (cxOf (L2.CX P w) P w K mg base N__law_pen "_law_pen" (defScope s__law_pen) A.d__law_pen.f cdv AA outer s H E).A.units + 64 < cLine := Nat.lt_of_succ_lt hu65
  have hu1 : (cxOf (L2.CX P w) P w K mg base N__law_pen "_law_pen" (defScope s__law_pen) A.d__law_pen.f cdv AA outer s H E).A.units + 1 < cLine := by omega
  exact vss_one (vs_ret (ve_lst (va_consK (ve_var 0) (va_cons (ve_callTy cd_int (by rfl) A.b_int bt_int (vb_cons (ve_cmp od_ge (ve_var 0) (ve_op od_pow (ve_int) (ve_int))) (vb_nil))) (va_nil))))))
def N__law_draw : List Str := ["_law_pen_here", "_law_many", "_law_found"]
abbrev K__law_draw : Nat := 1
theorem nd__law_draw : (N__law_draw).Nodup := by decide +kernel
theorem sc__law_draw : FnScope N__law_draw ["_law_pen_here", "_law_many"] (defScope s__law_draw) := ⟨rfl, rfl, rfl, nd__law_draw, rfl, by decide +kernel, by decide +kernel⟩
def fB__law_draw : Ev Fl := sSeq (sIf (xCmpT gEq (xBin gIx (xVar 0) (xC (.int 1))) (xC (.int 1))) (sSeq (sSet 2 (xBin gMod (xBin gIx (xVar 0) (xC (.int 0))) (xVar 1))) (sSeq (sSetIx (xVar 0) (xC (.int 0)) (xBin gFdiv (xBin gIx (xVar 0) (xC (.int 0))) (xVar 1))) (sRet (xVar 2)))) (sSkip)) (sSeq (sSetIx (xVar 0) (xC (.int 0)) (xBin gMod (xBin gAdd (xBin gMul (xBin gMod (xBin gIx (xVar 0) (xC (.int 0))) (xC (.int 2147483629))) (xC (.int 48271))) (xC (.int 11))) (xC (.int 2147483629)))) (sRet (xBin gMod (xBin gFdiv (xBin gMod (xBin gAdd (xBin gMul (xBin gIx (xVar 0) (xC (.int 0))) (xBin gIx (xVar 0) (xC (.int 0)))) (xBin gMul (xC (.int 40692)) (xBin gIx (xVar 0) (xC (.int 0))))) (xC (.int 2147483647))) (xC (.int 8))) (xVar 1))))
def φ__law_draw : Fn := runIo 3 2 fB__law_draw
theorem ok__law_draw (A : All K mg) : FnOk P w K mg base (L2.CX P w) K__law_draw A.d__law_draw.f A.d__law_draw.fd ["_law_pen_here", "_law_many"] (spIo K mg 2 φ__law_draw) :=
  fn_okIo (N := N__law_draw) (k := 0) (n := 2) (fB := fB__law_draw) A.d__law_draw.F sc__law_draw rfl (by decide) (fun cdv AA outer s H E hr => by
  have nd := nd__law_draw
  have tk : Takes (cxOf (L2.CX P w) P w K mg base N__law_draw "_law_draw" (defScope s__law_draw) A.d__law_draw.f cdv AA outer s H E) (fun cls d _ H => E cls d H) := takes_of rfl rfl rfl rfl
  have hp : PassesOwn (model P w) (cxOf (L2.CX P w) P w K mg base N__law_draw "_law_draw" (defScope s__law_draw) A.d__law_draw.f cdv AA outer s H E).A (cxOf (L2.CX P w) P w K mg base N__law_draw "_law_draw" (defScope s__law_draw) A.d__law_draw.f cdv AA outer s H E).env (cxOf (L2.CX P w) P w K mg base N__law_draw "_law_draw" (defScope s__law_draw) A.d__law_draw.f cdv AA outer s H E).xe := passes_of rfl
  have hu65 : (cxOf (L2.CX P w) P w K mg base N__law_draw "_law_draw" (defScope s__law_draw) A.d__law_draw.f cdv AA outer s H E).A.units + 65 < cLine := by
    have := hr.un
    show (AA.deeper _).units + 65 < cLine
    omega
  have hu64 : (cxOf (L2.CX P w) P w K mg base N__law_draw "_law_draw" (defScope s__law_draw) A.d__law_draw.f cdv AA outer s H E).A.units + 64 < cLine := Nat.lt_of_succ_lt hu65
  have hu1 : (cxOf (L2.CX P w) P w K mg base N__law_draw "_law_draw" (defScope s__law_draw) A.d__law_draw.f cdv AA outer s H E).A.units + 1 < cLine := by omega
  exact vss_cons (vs_if (vt_cmp (od_eq hu64) (ve_ix id_ix (ve_var 0) (ve_int)) (ve_int)) (vss_cons (vs_set 2 nd (ve_op od_mod (ve_ix id_ix (ve_var 0) (ve_int)) (ve_var 1))) (vss_cons (vs_setIx (ve_var 0) (ve_int) (ve_op od_fdiv (ve_ix id_ix (ve_var 0) (ve_int)) (ve_var 1))) (vss_one (vs_ret (ve_var 2))))) (vss_nil)) (vss_cons (vs_setIx (ve_var 0) (ve_int) (ve_op od_mod (ve_op od_add (ve_op od_mul (ve_op od_mod (ve_ix id_ix (ve_var 0) (ve_int)) (ve_int)) (ve_int)) (ve_int)) (ve_int))) (vss_one (vs_ret (ve_op od_mod (ve_op od_fdiv (ve_op od_mod (ve_op od_add (ve_op od_mul (ve_ix id_ix (ve_var 0) (ve_int)) (ve_ix id_ix (ve_var 0) (ve_int))) (ve_op od_mul (ve_int) (ve_ix id_ix (ve_var 0) (ve_int)))) (ve_int)) (ve_int)) (ve_var 1))))))
def N__law_all : List Str := ["_law_n", "_law_k", "_law_found", "_law_point", "_law_one"]
abbrev K__law_all : Nat := 1
theorem nd__law_all : (N__law_all).Nodup := by decide +kernel
theorem sc__law_all : FnScope N__law_all ["_law_n", "_law_k"] (defScope s__law_all) := ⟨rfl, rfl, rfl, nd__law_all, rfl, by decide +kernel, by decide +kernel⟩
def fB__law_all : Ev Fl := sSeq (sSet 2 (xLst (xCons (xSh (xTup (xNil))) (xNil)))) (sSeq (sFor (xRng (yCons (xVar 0) (yNil))) (gN 3) (sSet 2 (xBin gAdd (xVar 2) (xLc (xIt (xVar 2)) (gN 4) (xCmpT gLt (xPure gLen (yCons (xVar 4) (yNil))) (xVar 1)) (xBin gAdd (xVar 4) (xTup (xCons (xShK (xVar 3)) (xNil)))) [4])))) (sRet (xPure gSort (yCons (xLc (xIt (xVar 2)) (gN 4) (xCmpT gEq (xPure gLen (yCons (xVar 4) (yNil))) (xVar 1)) (xVar 4) [4]) (yNil)))))
def φ__law_all : Fn := runF 5 2 fB__law_all
theorem ok__law_all (A : All K mg) : FnOk P w K mg base (L2.CX P w) K__law_all A.d__law_all.f A.d__law_all.fd ["_law_n", "_law_k"] (spV K mg 2 φ__law_all) :=
  fn_ok (N := N__law_all) (k := 0) (n := 2) (fB := fB__law_all) A.d__law_all.F sc__law_all rfl (by decide) (fun cdv AA outer s H E hr => by
  have nd := nd__law_all
  have tk : Takes (cxOf (L2.CX P w) P w K mg base N__law_all "_law_all" (defScope s__law_all) A.d__law_all.f cdv AA outer s H E) (fun cls d _ H => E cls d H) := takes_of rfl rfl rfl rfl
  have hp : PassesOwn (model P w) (cxOf (L2.CX P w) P w K mg base N__law_all "_law_all" (defScope s__law_all) A.d__law_all.f cdv AA outer s H E).A (cxOf (L2.CX P w) P w K mg base N__law_all "_law_all" (defScope s__law_all) A.d__law_all.f cdv AA outer s H E).env (cxOf (L2.CX P w) P w K mg base N__law_all "_law_all" (defScope s__law_all) A.d__law_all.f cdv AA outer s H E).xe := passes_of rfl
  have hu65 : (cxOf (L2.CX P w) P w K mg base N__law_all "_law_all" (defScope s__law_all) A.d__law_all.f cdv AA outer s H E).A.units + 65 < cLine := by
    have := hr.un
    show (AA.deeper _).units + 65 < cLine
    omega
  have hu64 : (cxOf (L2.CX P w) P w K mg base N__law_all "_law_all" (defScope s__law_all) A.d__law_all.f cdv AA outer s H E).A.units + 64 < cLine := Nat.lt_of_succ_lt hu65
  have hu1 : (cxOf (L2.CX P w) P w K mg base N__law_all "_law_all" (defScope s__law_all) A.d__law_all.f cdv AA outer s H E).A.units + 1 < cLine := by omega
  exact vss_cons (vs_set 2 nd (ve_lst (va_cons (ve_tup (va_nil)) (va_nil)))) (vss_cons (vs_for hp rfl (vi_range (by rfl) A.b_range (vb_cons (ve_var 0) (vb_nil))) (vg_name 3 nd) (vss_one (vs_set 2 nd (ve_op od_add (ve_var 2) (ve_lc (own := [("_law_one", 4)]) rfl nd (vi_any (ve_var 2)) (blkOk_by (own := [("_law_one", 4)]) (N := N__law_all) (sc := defScope s__law_all) (by decide +kernel)) (by decide) (fun _ _ _ _ _ => vg_name 4 nd) (fun _ _ _ _ _ => pts_if (vt_cmp (od_lt hu64) (ve_callB cd_len (by rfl) A.b_len bt_len (vb_cons (ve_var 4) (vb_nil))) (ve_var 1))) (fun _ _ _ _ _ => ve_op od_add (ve_var 4) (ve_tup (va_consK (ve_var 3) (va_nil))))))))) (vss_one (vs_ret (ve_callB (cr_sort rfl hu64) (by rfl) A.b_sorted bt_sorted (vb_cons (ve_lc (own := [("_law_one", 4)]) rfl nd (vi_any (ve_var 2)) (blkOk_by (own := [("_law_one", 4)]) (N := N__law_all) (sc := defScope s__law_all) (by decide +kernel)) (by decide) (fun _ _ _ _ _ => vg_name 4 nd) (fun _ _ _ _ _ => pts_if (vt_cmp (od_eq hu64) (ve_callB cd_len (by rfl) A.b_len bt_len (vb_cons (ve_var 4) (vb_nil))) (ve_var 1))) (fun _ _ _ _ _ => ve_var 4)) (vb_nil)))))))
def N__law_stack : List Str := ["_law_pen_here", "_law_most", "_law_way", "_law_n", "_law_k", "_law_every", "_law_faces", "_law_turn", "_law_face", "_law_out", "_law_others", "_law_into", "_law_rest", "_law_point"]
abbrev K__law_stack : Nat := 2
theorem nd__law_stack : (N__law_stack).Nodup := by decide +kernel
theorem sc__law_stack : FnScope N__law_stack ["_law_pen_here", "_law_most"] (defScope s__law_stack) := ⟨rfl, rfl, rfl, nd__law_stack, rfl, by decide +kernel, by decide +kernel⟩
def fB__law_stack : Ev Fl := sSeq (sSet 2 (xCallIo φ__law_draw 0 (yCons (xVar 0) (yCons (xLn (xC (.int 7))) (yNil))))) (sSeq (sSet 3 (xBin gIx (xLst (xCons (xSh (xC (.int 5))) (xCons (xSh (xC (.int 4))) (xCons (xSh (xC (.int 6))) (xCons (xSh (xC (.int 3))) (xCons (xSh (xC (.int 7))) (xCons (xSh (xC (.int 8))) (xCons (xSh (xC (.int 2))) (xCons (xSh (xC (.int 1))) (xNil)))))))))) (xCallIo φ__law_draw 0 (yCons (xVar 0) (yCons (xLn (xC (.int 8))) (yNil)))))) (sSeq (sSet 4 (xPure gMin (yCons (xVar 3) (yCons (xBin gIx (xLst (xCons (xSh (xC (.int 2))) (xCons (xSh (xC (.int 3))) (xCons (xSh (xC (.int 1))) (xCons (xSh (xC (.int 4))) (xCons (xSh (xC (.int 3))) (xCons (xSh (xC (.int 2))) (xCons (xSh (xC (.int 0))) (xNil))))))))) (xCallIo φ__law_draw 0 (yCons (xVar 0) (yCons (xLn (xC (.int 7))) (yNil))))) (yNil))))) (sSeq (sSet 5 (xCall φ__law_all (yCons (xVar 3) (yCons (xVar 4) (yNil))))) (sSeq (sSet 6 (xLst (xCons (xSh (xBin gIx (xVar 5) (xCallIo φ__law_draw 0 (yCons (xVar 0) (yCons (xLn (xPure gLen (yCons (xVar 5) (yNil)))) (yNil)))))) (xNil)))) (sSeq (sFor (xRng (yCons (xCallIo φ__law_draw 0 (yCons (xVar 0) (yCons (xVar 1) (yNil)))) (yNil))) (gN 7) (sSeq (sSet 8 (xBin gIx (xVar 6) (xCallIo φ__law_draw 0 (yCons (xVar 0) (yCons (xLn (xPure gLen (yCons (xVar 6) (yNil)))) (yNil)))))) (sIf (xOr (xCmpT gEq (xVar 2) (xC (.int 0))) (xOr (xCmpT gEq (xVar 4) (xC (.int 0))) (xCmpT gEq (xVar 4) (xVar 3)))) (sDo (xMutS isL mAppend (xVar 6) (xCons (xSh (xBin gIx (xVar 5) (xCallIo φ__law_draw 0 (yCons (xVar 0) (yCons (xLn (xPure gLen (yCons (xVar 5) (yNil)))) (yNil)))))) (xNil)))) (sSeq (sSet 9 (xBin gIx (xVar 8) (xCallIo φ__law_draw 0 (yCons (xVar 0) (yCons (xVar 4) (yNil)))))) (sSeq (sSet 10 (xLc (xRng (yCons (xVar 3) (yNil))) (gN 13) (xCmpT gNin (xVar 13) (xVar 8)) (xVar 13) [13])) (sSeq (sSet 11 (xBin gIx (xVar 10) (xCallIo φ__law_draw 0 (yCons (xVar 0) (yCons (xLn (xBin gSub (xVar 3) (xVar 4))) (yNil)))))) (sSeq (sSet 12 (xLc (xIt (xVar 8)) (gN 13) (xCmpT gNe (xVar 13) (xVar 9)) (xVar 13) [13])) (sDo (xMutS isL mAppend (xVar 6) (xCons (xSh (xPure gTuple (yCons (xPure gSort (yCons (xBin gAdd (xVar 12) (xLst (xCons (xShK (xVar 11)) (xNil)))) (yNil))) (yNil)))) (xNil))))))))))) (sSeq (sIf (xAnd (xCmpT gEq (xVar 2) (xC (.int 6))) (xAnd (xCmpT gLt (xVar 4) (xVar 3)) (xCmpT gLt (xVar 4) (xVar 1)))) (sSet 6 (xCall φ__law_all (yCons (xLn (xBin gAdd (xVar 4) (xC (.int 1)))) (yCons (xVar 4) (yNil))))) (sSkip)) (sRet (xTup (xCons (xShK (xVar 3)) (xCons (xShK (xVar 4)) (xCons (xSh (xPure gTuple (yCons (xSortSet (xVar 6)) (yNil)))) (xNil))))))))))))
def φ__law_stack : Fn := runIo 14 2 fB__law_stack
theorem ok__law_stack (A : All K mg) : FnOk P w K mg base (L2.CX P w) K__law_stack A.d__law_stack.f A.d__law_stack.fd ["_law_pen_here", "_law_most"] (spIo K mg 2 φ__law_stack) :=
  fn_okIo (N := N__law_stack) (k := 1) (n := 2) (fB := fB__law_stack) A.d__law_stack.F sc__law_stack rfl (by decide) (fun cdv AA outer s H E hr => by
  have nd := nd__law_stack
  have tk : Takes (cxOf (L2.CX P w) P w K mg base N__law_stack "_law_stack" (defScope s__law_stack) A.d__law_stack.f cdv AA outer s H E) (fun cls d _ H => E cls d H) := takes_of rfl rfl rfl rfl
  have hp : PassesOwn (model P w) (cxOf (L2.CX P w) P w K mg base N__law_stack "_law_stack" (defScope s__law_stack) A.d__law_stack.f cdv AA outer s H E).A (cxOf (L2.CX P w) P w K mg base N__law_stack "_law_stack" (defScope s__law_stack) A.d__law_stack.f cdv AA outer s H E).env (cxOf (L2.CX P w) P w K mg base N__law_stack "_law_stack" (defScope s__law_stack) A.d__law_stack.f cdv AA outer s H E).xe := passes_of rfl
  have hu65 : (cxOf (L2.CX P w) P w K mg base N__law_stack "_law_stack" (defScope s__law_stack) A.d__law_stack.f cdv AA outer s H E).A.units + 65 < cLine := by
    have := hr.un
    show (AA.deeper _).units + 65 < cLine
    omega
  have hu64 : (cxOf (L2.CX P w) P w K mg base N__law_stack "_law_stack" (defScope s__law_stack) A.d__law_stack.f cdv AA outer s H E).A.units + 64 < cLine := Nat.lt_of_succ_lt hu65
  have hu1 : (cxOf (L2.CX P w) P w K mg base N__law_stack "_law_stack" (defScope s__law_stack) A.d__law_stack.f cdv AA outer s H E).A.units + 1 < cLine := by omega
  exact vss_cons (vs_set 2 nd (ve_callIo (i := 0) (ok__law_draw A) (room_of (j := K__law_draw) hr (by decide)) (by rfl) A.d__law_draw.m A.d__law_draw.F.kp A.d__law_draw.b tk (vb_cons (ve_var 0) (vb_cons (ve_ln (ve_int)) (vb_nil))) (len_cons (len_cons (len_nil))))) (vss_cons (vs_set 3 nd (ve_ix id_ix (ve_lst (va_cons (ve_int) (va_cons (ve_int) (va_cons (ve_int) (va_cons (ve_int) (va_cons (ve_int) (va_cons (ve_int) (va_cons (ve_int) (va_cons (ve_int) (va_nil)))))))))) (ve_callIo (i := 0) (ok__law_draw A) (room_of (j := K__law_draw) hr (by decide)) (by rfl) A.d__law_draw.m A.d__law_draw.F.kp A.d__law_draw.b tk (vb_cons (ve_var 0) (vb_cons (ve_ln (ve_int)) (vb_nil))) (len_cons (len_cons (len_nil)))))) (vss_cons (vs_set 4 nd (ve_callB (cd_min rfl) (by rfl) A.b_min bt_min (vb_cons (ve_var 3) (vb_cons (ve_ix id_ix (ve_lst (va_cons (ve_int) (va_cons (ve_int) (va_cons (ve_int) (va_cons (ve_int) (va_cons (ve_int) (va_cons (ve_int) (va_cons (ve_int) (va_nil))))))))) (ve_callIo (i := 0) (ok__law_draw A) (room_of (j := K__law_draw) hr (by decide)) (by rfl) A.d__law_draw.m A.d__law_draw.F.kp A.d__law_draw.b tk (vb_cons (ve_var 0) (vb_cons (ve_ln (ve_int)) (vb_nil))) (len_cons (len_cons (len_nil))))) (vb_nil))))) (vss_cons (vs_set 5 nd (ve_call (ok__law_all A) (room_of (j := K__law_all) hr (by decide)) (by rfl) A.d__law_all.m A.d__law_all.F.kp A.d__law_all.b tk (vb_cons (ve_var 3) (vb_cons (ve_var 4) (vb_nil))) (len_cons (len_cons (len_nil))))) (vss_cons (vs_set 6 nd (ve_lst (va_cons (ve_ix id_ix (ve_var 5) (ve_callIo (i := 0) (ok__law_draw A) (room_of (j := K__law_draw) hr (by decide)) (by rfl) A.d__law_draw.m A.d__law_draw.F.kp A.d__law_draw.b tk (vb_cons (ve_var 0) (vb_cons (ve_ln (ve_callB cd_len (by rfl) A.b_len bt_len (vb_cons (ve_var 5) (vb_nil)))) (vb_nil))) (len_cons (len_cons (len_nil))))) (va_nil)))) (vss_cons (vs_for hp rfl (vi_range (by rfl) A.b_range (vb_cons (ve_callIo (i := 0) (ok__law_draw A) (room_of (j := K__law_draw) hr (by decide)) (by rfl) A.d__law_draw.m A.d__law_draw.F.kp A.d__law_draw.b tk (vb_cons (ve_var 0) (vb_cons (ve_var 1) (vb_nil))) (len_cons (len_cons (len_nil)))) (vb_nil))) (vg_name 7 nd) (vss_cons (vs_set 8 nd (ve_ix id_ix (ve_var 6) (ve_callIo (i := 0) (ok__law_draw A) (room_of (j := K__law_draw) hr (by decide)) (by rfl) A.d__law_draw.m A.d__law_draw.F.kp A.d__law_draw.b tk (vb_cons (ve_var 0) (vb_cons (ve_ln (ve_callB cd_len (by rfl) A.b_len bt_len (vb_cons (ve_var 6) (vb_nil)))) (vb_nil))) (len_cons (len_cons (len_nil)))))) (vss_one (vs_if (VW.vt (vw_or (vt_cmp (od_eq hu64) (ve_var 2) (ve_int)) (vw_or (vt_cmp (od_eq hu64) (ve_var 4) (ve_int)) (vw_or1 (vt_cmp (od_eq hu64) (ve_var 4) (ve_var 3)))))) (vss_one (vs_expr (ve_append (ve_var 6) (va_cons (ve_ix id_ix (ve_var 5) (ve_callIo (i := 0) (ok__law_draw A) (room_of (j := K__law_draw) hr (by decide)) (by rfl) A.d__law_draw.m A.d__law_draw.F.kp A.d__law_draw.b tk (vb_cons (ve_var 0) (vb_cons (ve_ln (ve_callB cd_len (by rfl) A.b_len bt_len (vb_cons (ve_var 5) (vb_nil)))) (vb_nil))) (len_cons (len_cons (len_nil))))) (va_nil))))) (vss_cons (vs_set 9 nd (ve_ix id_ix (ve_var 8) (ve_callIo (i := 0) (ok__law_draw A) (room_of (j := K__law_draw) hr (by decide)) (by rfl) A.d__law_draw.m A.d__law_draw.F.kp A.d__law_draw.b tk (vb_cons (ve_var 0) (vb_cons (ve_var 4) (vb_nil))) (len_cons (len_cons (len_nil)))))) (vss_cons (vs_setLc 10 (own := [("_law_point", 13)]) rfl nd (vi_range (by rfl) A.b_range (vb_cons (ve_var 3) (vb_nil))) (blkOk_by (own := [("_law_point", 13)]) (N := N__law_stack) (sc := defScope s__law_stack) (by decide +kernel)) (by decide) (fun _ _ _ _ _ => vg_name 13 nd) (fun _ _ _ _ _ => pts_if (vt_cmp (od_nin hu65) (ve_var 13) (ve_var 8))) (fun _ _ _ _ _ => ve_var 13) (sw_true rfl rfl rfl (by decide +kernel))) (vss_cons (vs_set 11 nd (ve_ix id_ix (ve_var 10) (ve_callIo (i := 0) (ok__law_draw A) (room_of (j := K__law_draw) hr (by decide)) (by rfl) A.d__law_draw.m A.d__law_draw.F.kp A.d__law_draw.b tk (vb_cons (ve_var 0) (vb_cons (ve_ln (ve_op od_sub (ve_var 3) (ve_var 4))) (vb_nil))) (len_cons (len_cons (len_nil)))))) (vss_cons (vs_setLc 12 (own := [("_law_point", 13)]) rfl nd (vi_any (ve_var 8)) (blkOk_by (own := [("_law_point", 13)]) (N := N__law_stack) (sc := defScope s__law_stack) (by decide +kernel)) (by decide) (fun _ _ _ _ _ => vg_name 13 nd) (fun _ _ _ _ _ => pts_if (vt_cmp (od_ne hu64) (ve_var 13) (ve_var 9))) (fun _ _ _ _ _ => ve_var 13) (sw_true rfl rfl rfl (by decide +kernel))) (vss_one (vs_expr (ve_append (ve_var 6) (va_cons (ve_callTy cd_tuple (by rfl) A.b_tuple bt_tuple (vb_cons (ve_callB (cr_sort rfl hu64) (by rfl) A.b_sorted bt_sorted (vb_cons (ve_op od_add (ve_var 12) (ve_lst (va_consK (ve_var 11) (va_nil)))) (vb_nil))) (vb_nil))) (va_nil))))))))))))) (vss_cons (vs_if (VW.vt (vw_and (vt_cmp (od_eq hu64) (ve_var 2) (ve_int)) (vw_and (vt_cmp (od_lt hu64) (ve_var 4) (ve_var 3)) (vw_and1 (vt_cmp (od_lt hu64) (ve_var 4) (ve_var 1)))))) (vss_one (vs_set 6 nd (ve_call (ok__law_all A) (room_of (j := K__law_all) hr (by decide)) (by rfl) A.d__law_all.m A.d__law_all.F.kp A.d__law_all.b tk (vb_cons (ve_ln (ve_op od_add (ve_var 4) (ve_int))) (vb_cons (ve_var 4) (vb_nil))) (len_cons (len_cons (len_nil)))))) (vss_nil)) (vss_one (vs_ret (ve_tup (va_consK (ve_var 3) (va_consK (ve_var 4) (va_cons (ve_callTy cd_tuple (by rfl) A.b_tuple bt_tuple (vb_cons (ve_sortSet rfl hu64 (by rfl) A.b_sorted (by rfl) A.b_set (ve_var 6)) (vb_nil))) (va_nil))))))))))))))
def N__law_within : List Str := ["_law_part", "_law_face", "_law_point"]
abbrev K__law_within : Nat := 1
theorem nd__law_within : (N__law_within).Nodup := by decide +kernel
theorem sc__law_within : FnScope N__law_within ["_law_part", "_law_face"] (defScope s__law_within) := ⟨rfl, rfl, rfl, nd__law_within, rfl, by decide +kernel, by decide +kernel⟩
def fB__law_within : Ev Fl := sRet (xBin gEq (xLc (xIt (xVar 0)) (gN 2) (xCmpT gNin (xVar 2) (xVar 1)) (xVar 2) [2]) (xLst (xNil)))
def φ__law_within : Fn := runF 3 2 fB__law_within
theorem ok__law_within (A : All K mg) : FnOk P w K mg base (L2.CX P w) K__law_within A.d__law_within.f A.d__law_within.fd ["_law_part", "_law_face"] (spV K mg 2 φ__law_within) :=
  fn_ok (N := N__law_within) (k := 0) (n := 2) (fB := fB__law_within) A.d__law_within.F sc__law_within rfl (by decide) (fun cdv AA outer s H E hr => by
  have nd := nd__law_within
  have tk : Takes (cxOf (L2.CX P w) P w K mg base N__law_within "_law_within" (defScope s__law_within) A.d__law_within.f cdv AA outer s H E) (fun cls d _ H => E cls d H) := takes_of rfl rfl rfl rfl
  have hp : PassesOwn (model P w) (cxOf (L2.CX P w) P w K mg base N__law_within "_law_within" (defScope s__law_within) A.d__law_within.f cdv AA outer s H E).A (cxOf (L2.CX P w) P w K mg base N__law_within "_law_within" (defScope s__law_within) A.d__law_within.f cdv AA outer s H E).env (cxOf (L2.CX P w) P w K mg base N__law_within "_law_within" (defScope s__law_within) A.d__law_within.f cdv AA outer s H E).xe := passes_of rfl
  have hu65 : (cxOf (L2.CX P w) P w K mg base N__law_within "_law_within" (defScope s__law_within) A.d__law_within.f cdv AA outer s H E).A.units + 65 < cLine := by
    have := hr.un
    show (AA.deeper _).units + 65 < cLine
    omega
  have hu64 : (cxOf (L2.CX P w) P w K mg base N__law_within "_law_within" (defScope s__law_within) A.d__law_within.f cdv AA outer s H E).A.units + 64 < cLine := Nat.lt_of_succ_lt hu65
  have hu1 : (cxOf (L2.CX P w) P w K mg base N__law_within "_law_within" (defScope s__law_within) A.d__law_within.f cdv AA outer s H E).A.units + 1 < cLine := by omega
  exact vss_one (vs_ret (ve_cmp (od_eq hu64) (ve_lc (own := [("_law_point", 2)]) rfl nd (vi_any (ve_var 0)) (blkOk_by (own := [("_law_point", 2)]) (N := N__law_within) (sc := defScope s__law_within) (by decide +kernel)) (by decide) (fun _ _ _ _ _ => vg_name 2 nd) (fun _ _ _ _ _ => pts_if (vt_cmp (od_nin hu65) (ve_var 2) (ve_var 1))) (fun _ _ _ _ _ => ve_var 2)) (ve_lst (va_nil)))))
def N__law_common : List Str := ["_law_one", "_law_other", "_law_point"]
abbrev K__law_common : Nat := 1
theorem nd__law_common : (N__law_common).Nodup := by decide +kernel
theorem sc__law_common : FnScope N__law_common ["_law_one", "_law_other"] (defScope s__law_common) := ⟨rfl, rfl, rfl, nd__law_common, rfl, by decide +kernel, by decide +kernel⟩
def fB__law_common : Ev Fl := sRet (xLc (xIt (xVar 0)) (gN 2) (xCmpT gIn (xVar 2) (xVar 1)) (xVar 2) [2])
def φ__law_common : Fn := runF 3 2 fB__law_common
theorem ok__law_common (A : All K mg) : FnOk P w K mg base (L2.CX P w) K__law_common A.d__law_common.f A.d__law_common.fd ["_law_one", "_law_other"] (spV K mg 2 φ__law_common) :=
  fn_ok (N := N__law_common) (k := 0) (n := 2) (fB := fB__law_common) A.d__law_common.F sc__law_common rfl (by decide) (fun cdv AA outer s H E hr => by
  have nd := nd__law_common
  have tk : Takes (cxOf (L2.CX P w) P w K mg base N__law_common "_law_common" (defScope s__law_common) A.d__law_common.f cdv AA outer s H E) (fun cls d _ H => E cls d H) := takes_of rfl rfl rfl rfl
  have hp : PassesOwn (model P w) (cxOf (L2.CX P w) P w K mg base N__law_common "_law_common" (defScope s__law_common) A.d__law_common.f cdv AA outer s H E).A (cxOf (L2.CX P w) P w K mg base N__law_common "_law_common" (defScope s__law_common) A.d__law_common.f cdv AA outer s H E).env (cxOf (L2.CX P w) P w K mg base N__law_common "_law_common" (defScope s__law_common) A.d__law_common.f cdv AA outer s H E).xe := passes_of rfl
  have hu65 : (cxOf (L2.CX P w) P w K mg base N__law_common "_law_common" (defScope s__law_common) A.d__law_common.f cdv AA outer s H E).A.units + 65 < cLine := by
    have := hr.un
    show (AA.deeper _).units + 65 < cLine
    omega
  have hu64 : (cxOf (L2.CX P w) P w K mg base N__law_common "_law_common" (defScope s__law_common) A.d__law_common.f cdv AA outer s H E).A.units + 64 < cLine := Nat.lt_of_succ_lt hu65
  have hu1 : (cxOf (L2.CX P w) P w K mg base N__law_common "_law_common" (defScope s__law_common) A.d__law_common.f cdv AA outer s H E).A.units + 1 < cLine := by omega
  exact vss_one (vs_ret (ve_lc (own := [("_law_point", 2)]) rfl nd (vi_any (ve_var 0)) (blkOk_by (own := [("_law_point", 2)]) (N := N__law_common) (sc := defScope s__law_common) (by decide +kernel)) (by decide) (fun _ _ _ _ _ => vg_name 2 nd) (fun _ _ _ _ _ => pts_if (vt_cmp (od_in hu65) (ve_var 2) (ve_var 1))) (fun _ _ _ _ _ => ve_var 2))))
def N__law_may : List Str := ["_law_k", "_law_faces", "_law_face", "_law_some", "_law_beside", "_law_own", "_law_one"]
abbrev K__law_may : Nat := 2
theorem nd__law_may : (N__law_may).Nodup := by decide +kernel
theorem sc__law_may : FnScope N__law_may ["_law_k", "_law_faces", "_law_face"] (defScope s__law_may) := ⟨rfl, rfl, rfl, nd__law_may, rfl, by decide +kernel, by decide +kernel⟩
def fB__law_may : Ev Fl := sSeq (sSet 3 (xLc (xIt (xVar 1)) (gN 6) (xYes) (xCall φ__law_common (yCons (xVar 2) (yCons (xVar 6) (yNil)))) [6])) (sSeq (sSet 4 (xLc (xIt (xVar 3)) (gN 6) (xCmpT gEq (xPure gLen (yCons (xVar 6) (yNil))) (xBin gSub (xVar 0) (xC (.int 1)))) (xVar 6) [6])) (sSeq (sFor (xIt (xVar 3)) (gN 5) (sIf (xCmpT gEq (xLc (xIt (xVar 4)) (gN 6) (xTr (xCall φ__law_within (yCons (xVar 5) (yCons (xVar 6) (yNil))))) (xVar 6) [6]) (xLst (xNil))) (sRet (xC (.bl false))) (sSkip))) (sRet (xBin gNin (xVar 2) (xVar 1)))))
def φ__law_may : Fn := runF 7 3 fB__law_may
theorem ok__law_may (A : All K mg) : FnOk P w K mg base (L2.CX P w) K__law_may A.d__law_may.f A.d__law_may.fd ["_law_k", "_law_faces", "_law_face"] (spV K mg 3 φ__law_may) :=
  fn_ok (N := N__law_may) (k := 1) (n := 3) (fB := fB__law_may) A.d__law_may.F sc__law_may rfl (by decide) (fun cdv AA outer s H E hr => by
  have nd := nd__law_may
  have tk : Takes (cxOf (L2.CX P w) P w K mg base N__law_may "_law_may" (defScope s__law_may) A.d__law_may.f cdv AA outer s H E) (fun cls d _ H => E cls d H) := takes_of rfl rfl rfl rfl
  have hp : PassesOwn (model P w) (cxOf (L2.CX P w) P w K mg base N__law_may "_law_may" (defScope s__law_may) A.d__law_may.f cdv AA outer s H E).A (cxOf (L2.CX P w) P w K mg base N__law_may "_law_may" (defScope s__law_may) A.d__law_may.f cdv AA outer s H E).env (cxOf (L2.CX P w) P w K mg base N__law_may "_law_may" (defScope s__law_may) A.d__law_may.f cdv AA outer s H E).xe := passes_of rfl
  have hu65 : (cxOf (L2.CX P w) P w K mg base N__law_may "_law_may" (defScope s__law_may) A.d__law_may.f cdv AA outer s H E).A.units + 65 < cLine := by
    have := hr.un
    show (AA.deeper _).units + 65 < cLine
    omega
  have hu64 : (cxOf (L2.CX P w) P w K mg base N__law_may "_law_may" (defScope s__law_may) A.d__law_may.f cdv AA outer s H E).A.units + 64 < cLine := Nat.lt_of_succ_lt hu65
  have hu1 : (cxOf (L2.CX P w) P w K mg base N__law_may "_law_may" (defScope s__law_may) A.d__law_may.f cdv AA outer s H E).A.units + 1 < cLine := by omega
  exact vss_cons (vs_setLc 3 (own := [("_law_one", 6)]) rfl nd (vi_any (ve_var 1)) (blkOk_by (own := [("_law_one", 6)]) (N := N__law_may) (sc := defScope s__law_may) (by decide +kernel)) (by decide) (fun _ _ _ _ _ => vg_name 6 nd) (fun _ _ _ _ _ => pts_yes) (fun _ _ _ _ _ => ve_call (ok__law_common A) (room_of (j := K__law_common) hr (by decide)) (by rfl) A.d__law_common.m A.d__law_common.F.kp A.d__law_common.b takes0 (vb_cons (ve_var 2) (vb_cons (ve_var 6) (vb_nil))) (len_cons (len_cons (len_nil)))) (sw_true rfl rfl rfl (by decide +kernel))) (vss_cons (vs_setLc 4 (own := [("_law_one", 6)]) rfl nd (vi_any (ve_var 3)) (blkOk_by (own := [("_law_one", 6)]) (N := N__law_may) (sc := defScope s__law_may) (by decide +kernel)) (by decide) (fun _ _ _ _ _ => vg_name 6 nd) (fun _ _ _ _ _ => pts_if (vt_cmp (od_eq hu64) (ve_callB cd_len (by rfl) A.b_len bt_len (vb_cons (ve_var 6) (vb_nil))) (ve_op od_sub (ve_var 0) (ve_int)))) (fun _ _ _ _ _ => ve_var 6) (sw_true rfl rfl rfl (by decide +kernel))) (vss_cons (vs_for hp rfl (vi_any (ve_var 3)) (vg_name 5 nd) (vss_one (vs_if (vt_cmp (od_eq hu64) (ve_lc (own := [("_law_one", 6)]) rfl nd (vi_any (ve_var 4)) (blkOk_by (own := [("_law_one", 6)]) (N := N__law_may) (sc := defScope s__law_may) (by decide +kernel)) (by decide) (fun _ _ _ _ _ => vg_name 6 nd) (fun _ _ _ _ _ => pts_if (vt_tr (ve_call (ok__law_within A) (room_of (j := K__law_within) hr (by decide)) (by rfl) A.d__law_within.m A.d__law_within.F.kp A.d__law_within.b takes0 (vb_cons (ve_var 5) (vb_cons (ve_var 6) (vb_nil))) (len_cons (len_cons (len_nil)))))) (fun _ _ _ _ _ => ve_var 6)) (ve_lst (va_nil))) (vss_one (vs_ret (ve_bl))) (vss_nil)))) (vss_one (vs_ret (ve_cmp (od_nin hu65) (ve_var 2) (ve_var 1)))))))
def N__law_at : List Str := ["_law_stack_here", "_law_numbers_here", "_law_number"]
abbrev K__law_at : Nat := 1
theorem nd__law_at : (N__law_at).Nodup := by decide +kernel
theorem sc__law_at : FnScope N__law_at ["_law_stack_here", "_law_numbers_here"] (defScope s__law_at) := ⟨rfl, rfl, rfl, nd__law_at, rfl, by decide +kernel, by decide +kernel⟩
def fB__law_at : Ev Fl := sRet (xLc (xIt (xVar 1)) (gN 2) (xYes) (xBin gIx (xBin gIx (xVar 0) (xC (.int 2))) (xVar 2)) [2])
def φ__law_at : Fn := runF 3 2 fB__law_at
theorem ok__law_at (A : All K mg) : FnOk P w K mg base (L2.CX P w) K__law_at A.d__law_at.f A.d__law_at.fd ["_law_stack_here", "_law_numbers_here"] (spV K mg 2 φ__law_at) :=
  fn_ok (N := N__law_at) (k := 0) (n := 2) (fB := fB__law_at) A.d__law_at.F sc__law_at rfl (by decide) (fun cdv AA outer s H E hr => by
  have nd := nd__law_at
  have tk : Takes (cxOf (L2.CX P w) P w K mg base N__law_at "_law_at" (defScope s__law_at) A.d__law_at.f cdv AA outer s H E) (fun cls d _ H => E cls d H) := takes_of rfl rfl rfl rfl
  have hp : PassesOwn (model P w) (cxOf (L2.CX P w) P w K mg base N__law_at "_law_at" (defScope s__law_at) A.d__law_at.f cdv AA outer s H E).A (cxOf (L2.CX P w) P w K mg base N__law_at "_law_at" (defScope s__law_at) A.d__law_at.f cdv AA outer s H E).env (cxOf (L2.CX P w) P w K mg base N__law_at "_law_at" (defScope s__law_at) A.d__law_at.f cdv AA outer s H E).xe := passes_of rfl
  have hu65 : (cxOf (L2.CX P w) P w K mg base N__law_at "_law_at" (defScope s__law_at) A.d__law_at.f cdv AA outer s H E).A.units + 65 < cLine := by
    have := hr.un
    show (AA.deeper _).units + 65 < cLine
    omega
  have hu64 : (cxOf (L2.CX P w) P w K mg base N__law_at "_law_at" (defScope s__law_at) A.d__law_at.f cdv AA outer s H E).A.units + 64 < cLine := Nat.lt_of_succ_lt hu65
  have hu1 : (cxOf (L2.CX P w) P w K mg base N__law_at "_law_at" (defScope s__law_at) A.d__law_at.f cdv AA outer s H E).A.units + 1 < cLine := by omega
  exact vss_one (vs_ret (ve_lc (own := [("_law_number", 2)]) rfl nd (vi_any (ve_var 1)) (blkOk_by (own := [("_law_number", 2)]) (N := N__law_at) (sc := defScope s__law_at) (by decide +kernel)) (by decide) (fun _ _ _ _ _ => vg_name 2 nd) (fun _ _ _ _ _ => pts_yes) (fun _ _ _ _ _ => ve_ix id_ix (ve_ix id_ix (ve_var 0) (ve_int)) (ve_var 2)))))
def N__law_lots_of : List Str := ["_law_stack_here", "_law_ways", "_law_lot", "_law_faces", "_law_many", "_law_here", "_law_at_here", "_law_more"]
abbrev K__law_lots_of : Nat := 3
theorem nd__law_lots_of : (N__law_lots_of).Nodup := by decide +kernel
theorem sc__law_lots_of : FnScope N__law_lots_of ["_law_stack_here"] (defScope s__law_lots_of) := ⟨rfl, rfl, rfl, nd__law_lots_of, rfl, by decide +kernel, by decide +kernel⟩
def fB__law_lots_of : Ev Fl := sSeq (sPar 3 4 (xBin gIx (xVar 0) (xC (.int 2))) (xPure gLen (yCons (xBin gIx (xVar 0) (xC (.int 2))) (yNil)))) (sSeq (sSet 1 (xDisp1 false (xC (.int 0)) (xC (.int 1)))) (sSeq (sFor (xRng (yCons (xBin gShl (xC (.int 1)) (xVar 4)) (yNil))) (gN 2) (sIf (xB (xBin gDin (xVar 2) (xVar 1))) (sSeq (sSet 5 (xLc (xRng (yCons (xVar 4) (yNil))) (gN 6) (xTr (xBin gAnd (xBin gShr (xVar 2) (xVar 6)) (xC (.int 1)))) (xBin gIx (xVar 3) (xVar 6)) [6])) (sFor (xRng (yCons (xVar 4) (yNil))) (gN 6) (sIf (xAnd (xCmpT gEq (xBin gAnd (xBin gShr (xVar 2) (xVar 6)) (xC (.int 1))) (xC (.int 0))) (xTr (xCall φ__law_may (yCons (xLn (xBin gIx (xVar 0) (xC (.int 1)))) (yCons (xVar 5) (yCons (xLn (xBin gIx (xVar 3) (xVar 6))) (yNil))))))) (sSeq (sSet 7 (xBin gAdd (xVar 2) (xBin gShl (xC (.int 1)) (xVar 6)))) (sDput (xVar 1) (xVar 7) (xBin gAdd (xGet2 (xVar 1) (xVar 7) (xC (.int 0))) (xBin gDget (xVar 1) (xVar 2))))) (sSkip)))) (sSkip))) (sRet (xVar 1))))
def φ__law_lots_of : Fn := runF 8 1 fB__law_lots_of
theorem ok__law_lots_of (A : All K mg) : FnOk P w K mg base (L2.CX P w) K__law_lots_of A.d__law_lots_of.f A.d__law_lots_of.fd ["_law_stack_here"] (spV K mg 1 φ__law_lots_of) :=
  fn_ok (N := N__law_lots_of) (k := 2) (n := 1) (fB := fB__law_lots_of) A.d__law_lots_of.F sc__law_lots_of rfl (by decide) (fun cdv AA outer s H E hr => by
  have nd := nd__law_lots_of
  have tk : Takes (cxOf (L2.CX P w) P w K mg base N__law_lots_of "_law_lots_of" (defScope s__law_lots_of) A.d__law_lots_of.f cdv AA outer s H E) (fun cls d _ H => E cls d H) := takes_of rfl rfl rfl rfl
  have hp : PassesOwn (model P w) (cxOf (L2.CX P w) P w K mg base N__law_lots_of "_law_lots_of" (defScope s__law_lots_of) A.d__law_lots_of.f cdv AA outer s H E).A (cxOf (L2.CX P w) P w K mg base N__law_lots_of "_law_lots_of" (defScope s__law_lots_of) A.d__law_lots_of.f cdv AA outer s H E).env (cxOf (L2.CX P w) P w K mg base N__law_lots_of "_law_lots_of" (defScope s__law_lots_of) A.d__law_lots_of.f cdv AA outer s H E).xe := passes_of rfl
  have hu65 : (cxOf (L2.CX P w) P w K mg base N__law_lots_of "_law_lots_of" (defScope s__law_lots_of) A.d__law_lots_of.f cdv AA outer s H E).A.units + 65 < cLine := by
    have := hr.un
    show (AA.deeper _).units + 65 < cLine
    omega
  have hu64 : (cxOf (L2.CX P w) P w K mg base N__law_lots_of "_law_lots_of" (defScope s__law_lots_of) A.d__law_lots_of.f cdv AA outer s H E).A.units + 64 < cLine := Nat.lt_of_succ_lt hu65
  have hu1 : (cxOf (L2.CX P w) P w K mg base N__law_lots_of "_law_lots_of" (defScope s__law_lots_of) A.d__law_lots_of.f cdv AA outer s H E).A.units + 1 < cLine := by omega
  exact vss_cons (vs_parT 3 4 rfl nd (ve_ix id_ix (ve_var 0) (ve_int)) (ve_callB cd_len (by rfl) A.b_len bt_len (vb_cons (ve_ix id_ix (ve_var 0) (ve_int)) (vb_nil))) (vn_cons 3 nd (vn_cons 4 nd (vn_nil)))) (vss_cons (vs_set 1 nd (ve_disp1K (ve_int) (ve_int))) (vss_cons (vs_for hp rfl (vi_range (by rfl) A.b_range (vb_cons (ve_op od_shl (ve_int) (ve_var 4)) (vb_nil))) (vg_name 2 nd) (vss_one (vs_if (vt_din hu1 (ve_var 2) (ve_var 1)) (vss_cons (vs_setLc 5 (own := [("_law_at_here", 6)]) rfl nd (vi_range (by rfl) A.b_range (vb_cons (ve_var 4) (vb_nil))) (blkOk_by (own := [("_law_at_here", 6)]) (N := N__law_lots_of) (sc := defScope s__law_lots_of) (by decide +kernel)) (by decide) (fun _ _ _ _ _ => vg_name 6 nd) (fun _ _ _ _ _ => pts_if (vt_tr (ve_op od_and (ve_op od_shr (ve_var 2) (ve_var 6)) (ve_int)))) (fun _ _ _ _ _ => ve_ix id_ix (ve_var 3) (ve_var 6)) (sw_true rfl rfl rfl (by decide +kernel))) (vss_one (vs_for hp rfl (vi_range (by rfl) A.b_range (vb_cons (ve_var 4) (vb_nil))) (vg_name 6 nd) (vss_one (vs_if (VW.vt (vw_and (vt_cmp (od_eq hu64) (ve_op od_and (ve_op od_shr (ve_var 2) (ve_var 6)) (ve_int)) (ve_int)) (vw_and1 (vt_tr (ve_call (ok__law_may A) (room_of (j := K__law_may) hr (by decide)) (by rfl) A.d__law_may.m A.d__law_may.F.kp A.d__law_may.b tk (vb_cons (ve_ln (ve_ix id_ix (ve_var 0) (ve_int))) (vb_cons (ve_var 5) (vb_cons (ve_ln (ve_ix id_ix (ve_var 3) (ve_var 6))) (vb_nil)))) (len_cons (len_cons (len_cons (len_nil))))))))) (vss_cons (vs_set 7 nd (ve_op od_add (ve_var 2) (ve_op od_shl (ve_int) (ve_var 6)))) (vss_one (vs_dput hu1 (ve_var 1) (ve_var 7) (ve_op od_add (ve_get2 hu1 (ve_var 1) (ve_var 7) (ve_int)) (ve_dget hu1 (ve_var 1) (ve_var 2)))))) (vss_nil)))))) (vss_nil)))) (vss_one (vs_ret (ve_var 1))))))
def N__law_numbers : List Str := ["_law_lot", "_law_at_here"]
abbrev K__law_numbers : Nat := 1
theorem nd__law_numbers : (N__law_numbers).Nodup := by decide +kernel
theorem sc__law_numbers : FnScope N__law_numbers ["_law_lot"] (defScope s__law_numbers) := ⟨rfl, rfl, rfl, nd__law_numbers, rfl, by decide +kernel, by decide +kernel⟩
def fB__law_numbers : Ev Fl := sRet (xPure gTuple (yCons (xLc (xRng (yCons (xUn gBits (xVar 0)) (yNil))) (gN 1) (xTr (xBin gAnd (xBin gShr (xVar 0) (xVar 1)) (xC (.int 1)))) (xVar 1) [1]) (yNil)))
def φ__law_numbers : Fn := runF 2 1 fB__law_numbers
theorem ok__law_numbers (A : All K mg) : FnOk P w K mg base (L2.CX P w) K__law_numbers A.d__law_numbers.f A.d__law_numbers.fd ["_law_lot"] (spV K mg 1 φ__law_numbers) :=
  fn_ok (N := N__law_numbers) (k := 0) (n := 1) (fB := fB__law_numbers) A.d__law_numbers.F sc__law_numbers rfl (by decide) (fun cdv AA outer s H E hr => by
  have nd := nd__law_numbers
  have tk : Takes (cxOf (L2.CX P w) P w K mg base N__law_numbers "_law_numbers" (defScope s__law_numbers) A.d__law_numbers.f cdv AA outer s H E) (fun cls d _ H => E cls d H) := takes_of rfl rfl rfl rfl
  have hp : PassesOwn (model P w) (cxOf (L2.CX P w) P w K mg base N__law_numbers "_law_numbers" (defScope s__law_numbers) A.d__law_numbers.f cdv AA outer s H E).A (cxOf (L2.CX P w) P w K mg base N__law_numbers "_law_numbers" (defScope s__law_numbers) A.d__law_numbers.f cdv AA outer s H E).env (cxOf (L2.CX P w) P w K mg base N__law_numbers "_law_numbers" (defScope s__law_numbers) A.d__law_numbers.f cdv AA outer s H E).xe := passes_of rfl
  have hu65 : (cxOf (L2.CX P w) P w K mg base N__law_numbers "_law_numbers" (defScope s__law_numbers) A.d__law_numbers.f cdv AA outer s H E).A.units + 65 < cLine := by
    have := hr.un
    show (AA.deeper _).units + 65 < cLine
    omega
  have hu64 : (cxOf (L2.CX P w) P w K mg base N__law_numbers "_law_numbers" (defScope s__law_numbers) A.d__law_numbers.f cdv AA outer s H E).A.units + 64 < cLine := Nat.lt_of_succ_lt hu65
  have hu1 : (cxOf (L2.CX P w) P w K mg base N__law_numbers "_law_numbers" (defScope s__law_numbers) A.d__law_numbers.f cdv AA outer s H E).A.units + 1 < cLine := by omega
  exact vss_one (vs_ret (ve_callTy cd_tuple (by rfl) A.b_tuple bt_tuple (vb_cons (ve_lc (own := [("_law_at_here", 1)]) rfl nd (vi_range (by rfl) A.b_range (vb_cons (ve_bits (ve_var 0)) (vb_nil))) (blkOk_by (own := [("_law_at_here", 1)]) (N := N__law_numbers) (sc := defScope s__law_numbers) (by decide +kernel)) (by decide) (fun _ _ _ _ _ => vg_name 1 nd) (fun _ _ _ _ _ => pts_if (vt_tr (ve_op od_and (ve_op od_shr (ve_var 0) (ve_var 1)) (ve_int)))) (fun _ _ _ _ _ => ve_var 1)) (vb_nil)))))
def N__law_barred : List Str := ["_law_pen_here", "_law_most", "_law_face", "_law_one", "_law_other", "_law_n", "_law_k", "_law_by", "_law_left", "_law_moved", "_law_point"]
abbrev K__law_barred : Nat := 3
theorem nd__law_barred : (N__law_barred).Nodup := by decide +kernel
theorem sc__law_barred : FnScope N__law_barred ["_law_pen_here", "_law_most"] (defScope s__law_barred) := ⟨rfl, rfl, rfl, nd__law_barred, rfl, by decide +kernel, by decide +kernel⟩
def fB__law_barred : Ev Fl := sSeq (sPar 3 4 (xCallIo φ__law_stack 0 (yCons (xVar 0) (yCons (xLn (xBin gAdd (xBin gFdiv (xVar 1) (xC (.int 2))) (xC (.int 1)))) (yNil)))) (xCallIo φ__law_stack 0 (yCons (xVar 0) (yCons (xVar 1) (yNil))))) (sSeq (sPar 5 6 (xBin gIx (xVar 3) (xC (.int 0))) (xBin gIx (xVar 3) (xC (.int 1)))) (sSeq (sPar 7 8 (xCallIo φ__law_draw 0 (yCons (xVar 0) (yCons (xVar 5) (yNil)))) (xPure gList (yCons (xBin gIx (xVar 3) (xC (.int 2))) (yNil)))) (sSeq (sFor (xIt (xBin gIx (xVar 3) (xC (.int 2)))) (gN 2) (sSeq (sSet 9 (xPure gTuple (yCons (xPure gSort (yCons (xLc (xIt (xVar 2)) (gN 10) (xYes) (xBin gMod (xBin gAdd (xVar 10) (xVar 7)) (xVar 5)) [10]) (yNil))) (yNil)))) (sIf (xAnd (xCmpT gNin (xVar 9) (xVar 8)) (xCmpT gLt (xPure gLen (yCons (xVar 8) (yNil))) (xVar 1))) (sDo (xMutS isL mAppend (xVar 8) (xCons (xShK (xVar 9)) (xNil)))) (sSkip)))) (sRet (xBin gIx (xLst (xCons (xSh (xTup (xCons (xShK (xVar 5)) (xCons (xShK (xVar 6)) (xCons (xSh (xPure gTuple (yCons (xPure gSort (yCons (xVar 8) (yNil))) (yNil)))) (xNil)))))) (xCons (xShK (xVar 4)) (xNil)))) (xBin gFdiv (xCallIo φ__law_draw 0 (yCons (xVar 0) (yCons (xLn (xC (.int 4))) (yNil)))) (xC (.int 3))))))))
def φ__law_barred : Fn := runIo 11 2 fB__law_barred
theorem ok__law_barred (A : All K mg) : FnOk P w K mg base (L2.CX P w) K__law_barred A.d__law_barred.f A.d__law_barred.fd ["_law_pen_here", "_law_most"] (spIo K mg 2 φ__law_barred) :=
  fn_okIo (N := N__law_barred) (k := 2) (n := 2) (fB := fB__law_barred) A.d__law_barred.F sc__law_barred rfl (by decide) (fun cdv AA outer s H E hr => by
  have nd := nd__law_barred
  have tk : Takes (cxOf (L2.CX P w) P w K mg base N__law_barred "_law_barred" (defScope s__law_barred) A.d__law_barred.f cdv AA outer s H E) (fun cls d _ H => E cls d H) := takes_of rfl rfl rfl rfl
  have hp : PassesOwn (model P w) (cxOf (L2.CX P w) P w K mg base N__law_barred "_law_barred" (defScope s__law_barred) A.d__law_barred.f cdv AA outer s H E).A (cxOf (L2.CX P w) P w K mg base N__law_barred "_law_barred" (defScope s__law_barred) A.d__law_barred.f cdv AA outer s H E).env (cxOf (L2.CX P w) P w K mg base N__law_barred "_law_barred" (defScope s__law_barred) A.d__law_barred.f cdv AA outer s H E).xe := passes_of rfl
  have hu65 : (cxOf (L2.CX P w) P w K mg base N__law_barred "_law_barred" (defScope s__law_barred) A.d__law_barred.f cdv AA outer s H E).A.units + 65 < cLine := by
    have := hr.un
    show (AA.deeper _).units + 65 < cLine
    omega
  have hu64 : (cxOf (L2.CX P w) P w K mg base N__law_barred "_law_barred" (defScope s__law_barred) A.d__law_barred.f cdv AA outer s H E).A.units + 64 < cLine := Nat.lt_of_succ_lt hu65
  have hu1 : (cxOf (L2.CX P w) P w K mg base N__law_barred "_law_barred" (defScope s__law_barred) A.d__law_barred.f cdv AA outer s H E).A.units + 1 < cLine := by omega
  exact vss_cons (vs_par 3 4 rfl nd (ve_callIo (i := 0) (ok__law_stack A) (room_of (j := K__law_stack) hr (by decide)) (by rfl) A.d__law_stack.m A.d__law_stack.F.kp A.d__law_stack.b tk (vb_cons (ve_var 0) (vb_cons (ve_ln (ve_op od_add (ve_op od_fdiv (ve_var 1) (ve_int)) (ve_int))) (vb_nil))) (len_cons (len_cons (len_nil)))) (ve_callIo (i := 0) (ok__law_stack A) (room_of (j := K__law_stack) hr (by decide)) (by rfl) A.d__law_stack.m A.d__law_stack.F.kp A.d__law_stack.b tk (vb_cons (ve_var 0) (vb_cons (ve_var 1) (vb_nil))) (len_cons (len_cons (len_nil))))) (vss_cons (vs_parT 5 6 rfl nd (ve_ix id_ix (ve_var 3) (ve_int)) (ve_ix id_ix (ve_var 3) (ve_int)) (vn_cons 5 nd (vn_cons 6 nd (vn_nil)))) (vss_cons (vs_parT 7 8 rfl nd (ve_callIo (i := 0) (ok__law_draw A) (room_of (j := K__law_draw) hr (by decide)) (by rfl) A.d__law_draw.m A.d__law_draw.F.kp A.d__law_draw.b tk (vb_cons (ve_var 0) (vb_cons (ve_var 5) (vb_nil))) (len_cons (len_cons (len_nil)))) (ve_callTy (cd_list rfl) (by rfl) A.b_list bt_list (vb_cons (ve_ix id_ix (ve_var 3) (ve_int)) (vb_nil))) (vn_cons 7 nd (vn_cons 8 nd (vn_nil)))) (vss_cons (vs_for hp rfl (vi_any (ve_ix id_ix (ve_var 3) (ve_int))) (vg_name 2 nd) (vss_cons (vs_set 9 nd (ve_callTy cd_tuple (by rfl) A.b_tuple bt_tuple (vb_cons (ve_callB (cr_sort rfl hu64) (by rfl) A.b_sorted bt_sorted (vb_cons (ve_lc (own := [("_law_point", 10)]) rfl nd (vi_any (ve_var 2)) (blkOk_by (own := [("_law_point", 10)]) (N := N__law_barred) (sc := defScope s__law_barred) (by decide +kernel)) (by decide) (fun _ _ _ _ _ => vg_name 10 nd) (fun _ _ _ _ _ => pts_yes) (fun _ _ _ _ _ => ve_op od_mod (ve_op od_add (ve_var 10) (ve_var 7)) (ve_var 5))) (vb_nil))) (vb_nil)))) (vss_one (vs_if (VW.vt (vw_and (vt_cmp (od_nin hu65) (ve_var 9) (ve_var 8)) (vw_and1 (vt_cmp (od_lt hu64) (ve_callB cd_len (by rfl) A.b_len bt_len (vb_cons (ve_var 8) (vb_nil))) (ve_var 1))))) (vss_one (vs_expr (ve_append (ve_var 8) (va_consK (ve_var 9) (va_nil))))) (vss_nil))))) (vss_one (vs_ret (ve_ix id_ix (ve_lst (va_cons (ve_tup (va_consK (ve_var 5) (va_consK (ve_var 6) (va_cons (ve_callTy cd_tuple (by rfl) A.b_tuple bt_tuple (vb_cons (ve_callB (cr_sort rfl hu64) (by rfl) A.b_sorted bt_sorted (vb_cons (ve_var 8) (vb_nil))) (vb_nil))) (va_nil))))) (va_consK (ve_var 4) (va_nil)))) (ve_op od_fdiv (ve_callIo (i := 0) (ok__law_draw A) (room_of (j := K__law_draw) hr (by decide)) (by rfl) A.d__law_draw.m A.d__law_draw.F.kp A.d__law_draw.b tk (vb_cons (ve_var 0) (vb_cons (ve_ln (ve_int)) (vb_nil))) (len_cons (len_cons (len_nil)))) (ve_int)))))))))
def N__law_right : List Str := ["_law_stack_here", "_law_ways", "_law_lots", "_law_stuck", "_law_lot", "_law_turn", "_law_here", "_law_left", "_law_can", "_law_found", "_law_face"]
abbrev K__law_right : Nat := 9
theorem nd__law_right : (N__law_right).Nodup := by decide +kernel
theorem sc__law_right : FnScope N__law_right ["_law_stack_here"] (defScope s__law_right) := ⟨rfl, rfl, rfl, nd__law_right, rfl, by decide +kernel, by decide +kernel⟩
def fB__law_right : Ev Fl := sSeq (sSet 1 (xCall φ__law_lots_of (yCons (xVar 0) (yNil)))) (sSeq (sSet 2 (xPure gSort (yCons (xLc (xIt (xVar 1)) (gN 4) (xYes) (xCall φ__law_numbers (yCons (xVar 4) (yNil))) [4]) (yNil)))) (sSeq (sSet 3 (xLst (xNil))) (sSeq (sFor (xIt (xVar 2)) (gN 4) (sSeq (sSet 6 (xCall φ__law_at (yCons (xVar 0) (yCons (xVar 4) (yNil))))) (sSeq (sSet 7 (xLc (xIt (xBin gIx (xVar 0) (xC (.int 2)))) (gN 10) (xCmpT gNin (xVar 10) (xVar 6)) (xVar 10) [10])) (sSeq (sSet 8 (xLc (xIt (xVar 7)) (gN 10) (xTr (xCall φ__law_may (yCons (xLn (xBin gIx (xVar 0) (xC (.int 1)))) (yCons (xVar 6) (yCons (xVar 10) (yNil)))))) (xVar 10) [10])) (sIf (xAnd (xCmpT gEq (xVar 8) (xLst (xNil))) (xCmpT gNe (xVar 7) (xLst (xNil)))) (sDo (xMutS isL mAppend (xVar 3) (xCons (xShK (xVar 4)) (xNil)))) (sSkip)))))) (sSeq (sFor (xRng (yCons (xC (.int 2)) (yNil))) (gN 5) (sFour 9 (xCall φ_laid_lots (yCons (xVar 0) (yNil))) (xCall φ_stuck_lots (yCons (xVar 0) (yNil))) (xNot (xTr (xCall (φ__law_same 6) (yCons (xVar 9) (yCons (xLn (xLst (xCons (xShK (xVar 2)) (xCons (xShK (xVar 3)) (xNil))))) (yNil)))))))) (sRet (xCall (φ__law_same 6) (yCons (xLn (xCall φ_most_laid (yCons (xVar 0) (yNil)))) (yCons (xLn (xPure gMax (yCons (xLc (xIt (xVar 2)) (gN 4) (xYes) (xPure gLen (yCons (xVar 4) (yNil))) [4]) (yNil)))) (yNil)))))))))
def φ__law_right : Fn := runF 11 1 fB__law_right
theorem ok__law_right (A : All K mg) : FnOk P w K mg base (L2.CX P w) K__law_right A.d__law_right.f A.d__law_right.fd ["_law_stack_here"] (spV K mg 1 φ__law_right) :=
  fn_ok (N := N__law_right) (k := 8) (n := 1) (fB := fB__law_right) A.d__law_right.F sc__law_right rfl (by decide) (fun cdv AA outer s H E hr => by
  have nd := nd__law_right
  have tk : Takes (cxOf (L2.CX P w) P w K mg base N__law_right "_law_right" (defScope s__law_right) A.d__law_right.f cdv AA outer s H E) (fun cls d _ H => E cls d H) := takes_of rfl rfl rfl rfl
  have hp : PassesOwn (model P w) (cxOf (L2.CX P w) P w K mg base N__law_right "_law_right" (defScope s__law_right) A.d__law_right.f cdv AA outer s H E).A (cxOf (L2.CX P w) P w K mg base N__law_right "_law_right" (defScope s__law_right) A.d__law_right.f cdv AA outer s H E).env (cxOf (L2.CX P w) P w K mg base N__law_right "_law_right" (defScope s__law_right) A.d__law_right.f cdv AA outer s H E).xe := passes_of rfl
  have hu65 : (cxOf (L2.CX P w) P w K mg base N__law_right "_law_right" (defScope s__law_right) A.d__law_right.f cdv AA outer s H E).A.units + 65 < cLine := by
    have := hr.un
    show (AA.deeper _).units + 65 < cLine
    omega
  have hu64 : (cxOf (L2.CX P w) P w K mg base N__law_right "_law_right" (defScope s__law_right) A.d__law_right.f cdv AA outer s H E).A.units + 64 < cLine := Nat.lt_of_succ_lt hu65
  have hu1 : (cxOf (L2.CX P w) P w K mg base N__law_right "_law_right" (defScope s__law_right) A.d__law_right.f cdv AA outer s H E).A.units + 1 < cLine := by omega
  exact vss_cons (vs_set 1 nd (ve_call (ok__law_lots_of A) (room_of (j := K__law_lots_of) hr (by decide)) (by rfl) A.d__law_lots_of.m A.d__law_lots_of.F.kp A.d__law_lots_of.b tk (vb_cons (ve_var 0) (vb_nil)) (len_cons (len_nil)))) (vss_cons (vs_set 2 nd (ve_callB (cr_sort rfl hu64) (by rfl) A.b_sorted bt_sorted (vb_cons (ve_lc (own := [("_law_lot", 4)]) rfl nd (vi_any (ve_var 1)) (blkOk_by (own := [("_law_lot", 4)]) (N := N__law_right) (sc := defScope s__law_right) (by decide +kernel)) (by decide) (fun _ _ _ _ _ => vg_name 4 nd) (fun _ _ _ _ _ => pts_yes) (fun _ _ _ _ _ => ve_call (ok__law_numbers A) (room_of (j := K__law_numbers) hr (by decide)) (by rfl) A.d__law_numbers.m A.d__law_numbers.F.kp A.d__law_numbers.b takes0 (vb_cons (ve_var 4) (vb_nil)) (len_cons (len_nil)))) (vb_nil)))) (vss_cons (vs_set 3 nd (ve_lst (va_nil))) (vss_cons (vs_for hp rfl (vi_any (ve_var 2)) (vg_name 4 nd) (vss_cons (vs_set 6 nd (ve_call (ok__law_at A) (room_of (j := K__law_at) hr (by decide)) (by rfl) A.d__law_at.m A.d__law_at.F.kp A.d__law_at.b tk (vb_cons (ve_var 0) (vb_cons (ve_var 4) (vb_nil))) (len_cons (len_cons (len_nil))))) (vss_cons (vs_setLc 7 (own := [("_law_face", 10)]) rfl nd (vi_any (ve_ix id_ix (ve_var 0) (ve_int))) (blkOk_by (own := [("_law_face", 10)]) (N := N__law_right) (sc := defScope s__law_right) (by decide +kernel)) (by decide) (fun _ _ _ _ _ => vg_name 10 nd) (fun _ _ _ _ _ => pts_if (vt_cmp (od_nin hu65) (ve_var 10) (ve_var 6))) (fun _ _ _ _ _ => ve_var 10) (sw_true rfl rfl rfl (by decide +kernel))) (vss_cons (vs_setLc 8 (own := [("_law_face", 10)]) rfl nd (vi_any (ve_var 7)) (blkOk_by (own := [("_law_face", 10)]) (N := N__law_right) (sc := defScope s__law_right) (by decide +kernel)) (by decide) (fun _ _ _ _ _ => vg_name 10 nd) (fun _ _ _ _ _ => pts_if (vt_tr (ve_call (ok__law_may A) (room_of (j := K__law_may) hr (by decide)) (by rfl) A.d__law_may.m A.d__law_may.F.kp A.d__law_may.b takes0 (vb_cons (ve_ln (ve_ix id_ix (ve_var 0) (ve_int))) (vb_cons (ve_var 6) (vb_cons (ve_var 10) (vb_nil)))) (len_cons (len_cons (len_cons (len_nil))))))) (fun _ _ _ _ _ => ve_var 10) (sw_true rfl rfl rfl (by decide +kernel))) (vss_one (vs_if (VW.vt (vw_and (vt_cmp (od_eq hu64) (ve_var 8) (ve_lst (va_nil))) (vw_and1 (vt_cmp (od_ne hu64) (ve_var 7) (ve_lst (va_nil)))))) (vss_one (vs_expr (ve_append (ve_var 3) (va_consK (ve_var 4) (va_nil))))) (vss_nil))))))) (vss_cons (vs_for hp rfl (vi_range (by rfl) A.b_range (vb_cons (ve_int) (vb_nil))) (vg_name 5 nd) (vss_four (j := 9) (fe1 := xCall φ_laid_lots (yCons (xVar 0) (yNil))) (fe2 := xCall φ_stuck_lots (yCons (xVar 0) (yNil))) (ct := xNot (xTr (xCall (φ__law_same 6) (yCons (xVar 9) (yCons (xLn (xLst (xCons (xShK (xVar 2)) (xCons (xShK (xVar 3)) (xNil))))) (yNil)))))) (pss_cons (ps_set (i := 9) nd rfl (by first | exact Or.inl rfl | exact Or.inr rfl) (pe_lst (pa_cons (VE.pe (ve_call (ok_laid_lots A) (room_of (j := K_laid_lots) hr (by decide)) (by rfl) A.d_laid_lots.m A.d_laid_lots.F.kp A.d_laid_lots.b tk (vb_cons (ve_var 0) (vb_nil)) (len_cons (len_nil)))) (pa_cons (VE.pe (ve_call (ok_stuck_lots A) (room_of (j := K_stuck_lots) hr (by decide)) (by rfl) A.d_stuck_lots.m A.d_stuck_lots.F.kp A.d_stuck_lots.b tk (vb_cons (ve_var 0) (vb_nil)) (len_cons (len_nil)))) pa_nil)))) (pss_cons (ps_if (VT.pt (vt_not (vt_tr (ve_call (ok__law_same A 6) (room_of (j := K__law_same) hr (by decide)) (by rfl) A.d__law_same.m A.d__law_same.F.kp A.d__law_same.b tk (vb_cons (ve_var 9) (vb_cons (ve_ln (ve_lst (va_consK (ve_var 2) (va_consK (ve_var 3) (va_nil))))) (vb_nil))) (len_cons (len_cons (len_nil))))))) (pss_one (ps_ret pe_bl)) pss_nil) (pss_cons (ps_expr (pe_bm PySem.F.plainAttrs_list PySem.F.slot_list_append PySem.F.type_list_append mt_append (pe_ix ix_list (pv 9) pe_int (fun _ _ => rfl)) (pa_cons (pe_tup pa_nil) pa_nil))) (pss_one (ps_expr (pe_bm PySem.F.plainAttrs_list PySem.F.slot_list_append PySem.F.type_list_append mt_append (pe_ix ix_list (pv 9) pe_int (fun _ _ => rfl)) (pa_cons (pe_non) pa_nil))))))))) (vss_one (vs_ret (ve_call (ok__law_same A 6) (room_of (j := K__law_same) hr (by decide)) (by rfl) A.d__law_same.m A.d__law_same.F.kp A.d__law_same.b tk (vb_cons (ve_ln (ve_call (ok_most_laid A) (room_of (j := K_most_laid) hr (by decide)) (by rfl) A.d_most_laid.m A.d_most_laid.F.kp A.d_most_laid.b tk (vb_cons (ve_var 0) (vb_nil)) (len_cons (len_nil)))) (vb_cons (ve_ln (ve_callB (cd_max rfl) (by rfl) A.b_max bt_max (vb_cons (ve_lc (own := [("_law_lot", 4)]) rfl nd (vi_any (ve_var 2)) (blkOk_by (own := [("_law_lot", 4)]) (N := N__law_right) (sc := defScope s__law_right) (by decide +kernel)) (by decide) (fun _ _ _ _ _ => vg_name 4 nd) (fun _ _ _ _ _ => pts_yes) (fun _ _ _ _ _ => ve_callB cd_len (by rfl) A.b_len bt_len (vb_cons (ve_var 4) (vb_nil)))) (vb_nil)))) (vb_nil))) (len_cons (len_cons (len_nil)))))))))))
def N_law : List Str := ["_law_script", "_law_some", "_law_nine", "_law_cell_here", "_law_pen_here"]
abbrev K_law : Nat := 10
theorem nd_law : (N_law).Nodup := by decide +kernel
theorem sc_law : FnScope N_law ["_law_script"] (defScope s_law) := ⟨rfl, rfl, rfl, nd_law, rfl, by decide +kernel, by decide +kernel⟩
def fB_law : Ev Fl := sSeq (sSet 1 (xTup (xCons (xSh (xTup (xCons (xSh (xC (.int 0))) (xCons (xSh (xC (.int 1))) (xCons (xSh (xC (.int 2))) (xNil)))))) (xCons (xSh (xTup (xCons (xSh (xC (.int 0))) (xCons (xSh (xC (.int 1))) (xCons (xSh (xC (.int 5))) (xNil)))))) (xCons (xSh (xTup (xCons (xSh (xC (.int 0))) (xCons (xSh (xC (.int 2))) (xCons (xSh (xC (.int 4))) (xNil)))))) (xCons (xSh (xTup (xCons (xSh (xC (.int 1))) (xCons (xSh (xC (.int 2))) (xCons (xSh (xC (.int 3))) (xNil)))))) (xCons (xSh (xTup (xCons (xSh (xC (.int 1))) (xCons (xSh (xC (.int 3))) (xCons (xSh (xC (.int 4))) (xNil)))))) (xCons (xSh (xTup (xCons (xSh (xC (.int 1))) (xCons (xSh (xC (.int 4))) (xCons (xSh (xC (.int 5))) (xNil)))))) (xNil))))))))) (sSeq (sSet 2 (xTup (xCons (xSh (xC (.int 6))) (xCons (xSh (xC (.int 3))) (xCons (xSh (xBin gAdd (xVar 1) (xTup (xCons (xSh (xTup (xCons (xSh (xC (.int 2))) (xCons (xSh (xC (.int 3))) (xCons (xSh (xC (.int 5))) (xNil)))))) (xCons (xSh (xTup (xCons (xSh (xC (.int 2))) (xCons (xSh (xC (.int 4))) (xCons (xSh (xC (.int 5))) (xNil)))))) (xCons (xSh (xTup (xCons (xSh (xC (.int 3))) (xCons (xSh (xC (.int 4))) (xCons (xSh (xC (.int 5))) (xNil)))))) (xNil))))))) (xNil)))))) (sSeq (sIf (xNot (xTr (xCall φ__law_right (yCons (xVar 2) (yNil))))) (sRet (xC (.bl false))) (sSkip)) (sSeq (sFor (xIt (xBin gAdd (xLst (xCons (xSh (xCall φ__law_cell (yCons (xVar 0) (yCons (xLn (xC (.int 0))) (yNil))))) (xNil))) (xSl (xVar 0) (oAt (xC (.int 1))) (oAt (xC (.int 2)))))) (gN 3) (sSeq (sSet 4 (xCall φ__law_pen (yCons (xVar 3) (yNil)))) (sIf (xNot (xTr (xCall φ__law_right (yCons (xLn (xCallIo φ__law_barred 4 (yCons (xVar 4) (yCons (xLn (xC (.int 8))) (yNil))))) (yNil))))) (sRet (xC (.bl false))) (sSkip)))) (sRet (xC (.bl true))))))
def φ_law : Fn := runF 5 1 fB_law
theorem ok_law (A : All K mg) : FnOk P w K mg base (L2.CX P w) K_law A.d_law.f A.d_law.fd ["_law_script"] (spV K mg 1 φ_law) :=
  fn_ok (N := N_law) (k := 9) (n := 1) (fB := fB_law) A.d_law.F sc_law rfl (by decide) (fun cdv AA outer s H E hr => by
  have nd := nd_law
  have tk : Takes (cxOf (L2.CX P w) P w K mg base N_law "law" (defScope s_law) A.d_law.f cdv AA outer s H E) (fun cls d _ H => E cls d H) := takes_of rfl rfl rfl rfl
  have hp : PassesOwn (model P w) (cxOf (L2.CX P w) P w K mg base N_law "law" (defScope s_law) A.d_law.f cdv AA outer s H E).A (cxOf (L2.CX P w) P w K mg base N_law "law" (defScope s_law) A.d_law.f cdv AA outer s H E).env (cxOf (L2.CX P w) P w K mg base N_law "law" (defScope s_law) A.d_law.f cdv AA outer s H E).xe := passes_of rfl
  have hu65 : (cxOf (L2.CX P w) P w K mg base N_law "law" (defScope s_law) A.d_law.f cdv AA outer s H E).A.units + 65 < cLine := by
    have := hr.un
    show (AA.deeper _).units + 65 < cLine
    omega
  have hu64 : (cxOf (L2.CX P w) P w K mg base N_law "law" (defScope s_law) A.d_law.f cdv AA outer s H E).A.units + 64 < cLine := Nat.lt_of_succ_lt hu65
  have hu1 : (cxOf (L2.CX P w) P w K mg base N_law "law" (defScope s_law) A.d_law.f cdv AA outer s H E).A.units + 1 < cLine := by omega
  exact vss_cons (vs_set 1 nd (ve_tup (va_cons (ve_tup (va_cons (ve_int) (va_cons (ve_int) (va_cons (ve_int) (va_nil))))) (va_cons (ve_tup (va_cons (ve_int) (va_cons (ve_int) (va_cons (ve_int) (va_nil))))) (va_cons (ve_tup (va_cons (ve_int) (va_cons (ve_int) (va_cons (ve_int) (va_nil))))) (va_cons (ve_tup (va_cons (ve_int) (va_cons (ve_int) (va_cons (ve_int) (va_nil))))) (va_cons (ve_tup (va_cons (ve_int) (va_cons (ve_int) (va_cons (ve_int) (va_nil))))) (va_cons (ve_tup (va_cons (ve_int) (va_cons (ve_int) (va_cons (ve_int) (va_nil))))) (va_nil))))))))) (vss_cons (vs_set 2 nd (ve_tup (va_cons (ve_int) (va_cons (ve_int) (va_cons (ve_op od_add (ve_var 1) (ve_tup (va_cons (ve_tup (va_cons (ve_int) (va_cons (ve_int) (va_cons (ve_int) (va_nil))))) (va_cons (ve_tup (va_cons (ve_int) (va_cons (ve_int) (va_cons (ve_int) (va_nil))))) (va_cons (ve_tup (va_cons (ve_int) (va_cons (ve_int) (va_cons (ve_int) (va_nil))))) (va_nil)))))) (va_nil)))))) (vss_cons (vs_if (vt_not (vt_tr (ve_call (ok__law_right A) (room_of (j := K__law_right) hr (by decide)) (by rfl) A.d__law_right.m A.d__law_right.F.kp A.d__law_right.b tk (vb_cons (ve_var 2) (vb_nil)) (len_cons (len_nil))))) (vss_one (vs_ret (ve_bl))) (vss_nil)) (vss_cons (vs_for hp rfl (vi_any (ve_op od_add (ve_lst (va_cons (ve_call (ok__law_cell A) (room_of (j := K__law_cell) hr (by decide)) (by rfl) A.d__law_cell.m A.d__law_cell.F.kp A.d__law_cell.b tk (vb_cons (ve_var 0) (vb_cons (ve_ln (ve_int)) (vb_nil))) (len_cons (len_cons (len_nil)))) (va_nil))) (ve_sl (ve_var 0) (vp_at (ve_int)) (vp_at (ve_int))))) (vg_name 3 nd) (vss_cons (vs_set 4 nd (ve_call (ok__law_pen A) (room_of (j := K__law_pen) hr (by decide)) (by rfl) A.d__law_pen.m A.d__law_pen.F.kp A.d__law_pen.b tk (vb_cons (ve_var 3) (vb_nil)) (len_cons (len_nil)))) (vss_one (vs_if (vt_not (vt_tr (ve_call (ok__law_right A) (room_of (j := K__law_right) hr (by decide)) (by rfl) A.d__law_right.m A.d__law_right.F.kp A.d__law_right.b tk (vb_cons (ve_ln (ve_callIo (i := 4) (ok__law_barred A) (room_of (j := K__law_barred) hr (by decide)) (by rfl) A.d__law_barred.m A.d__law_barred.F.kp A.d__law_barred.b tk (vb_cons (ve_var 4) (vb_cons (ve_ln (ve_int)) (vb_nil))) (len_cons (len_cons (len_nil))))) (vb_nil)) (len_cons (len_nil))))) (vss_one (vs_ret (ve_bl))) (vss_nil))))) (vss_one (vs_ret (ve_bl)))))))
end
end K21

set_option Elab.async false
set_option linter.all false
set_option maxRecDepth 100000
set_option maxHeartbeats 1000000
/-! k21: what each def says, in plain Lean. -/
namespace K21
open PySem PySem.Spec L2 Lf
def bl (b : Bool) : Option RR := some (.ok (.sh (.bl b)) .non)
theorem q_append {i : Nat} {ρ : Lf.Env} {fd : Ev (List D)} {ds : List D} {x : D} (h1 : ρ[i]? = some (Slot.ow (.lst ds))) (h2 : fd ρ = some (.ok [x] ρ)) (h3 : ds.length < sizeLine) : xMutS isL mAppend (xVar i) fd ρ = some (.ok (.sh .non) (ρ.set i (.ow (.lst (ds ++ [x]))))) := by
  have e1 : xVar i ρ = some (.ok (.bw i) ρ) := by rw [q_var, h1]
  have e2 : ownAt ρ (.bw i) = some (i, .lst ds) := by unfold ownAt; dsimp only; rw [h1]
  unfold xMutS
  rw [e1, q_bnd, e2]
  dsimp only
  rw [if_pos (show isL (.lst ds) = true from rfl), h2, q_bnd, e2]
  dsimp only
  unfold mAppend
  dsimp only
  rw [if_pos h3]; rfl
theorem q_shK {i : Nat} {ρ : Lf.Env} {d : D} (h : ρ[i]? = some (Slot.sh d)) : xShK (xVar i) ρ = some (.ok (.sh d) ρ) := by
  unfold xShK
  rw [q_var, h]; rfl
/-! ### within -/
theorem e_within (t : Bool) (a b : List Int) : φ_within [if t then dTI a else .lst (a.map .int), dTI b] = bl (a.all fun p => decide (p ∈ b)) := by
  have hi : itemsOf (if t then dTI a else .lst (a.map .int)) = some (a.map .int, false) := by cases t <;> rfl
  have h := lc_all (fi := xIt (xVar 0)) (g := gN 2) (fe := xBin gIn (xVar 2) (xVar 1)) (vs := [2]) (ρ := [.sh (if t then dTI a else .lst (a.map .int)), .sh (dTI b), .no]) (u := none) (dc := false) (ρ1 := [.sh (if t then dTI a else .lst (a.map .int)), .sh (dTI b), .no]) D.int a (fun p => .bl (decide (p ∈ b))) (fun p => [.sh (if t then dTI a else .lst (a.map .int)), .sh (dTI b), .sh (.int p)]) (by simp [hi]) rfl (fun _ _ => rfl)
      (fun p _ => by simp [gIn_t]) (fun _ _ => ⟨rfl, rfl⟩)
  refine run_sh rfl [.sh (if t then dTI a else .lst (a.map .int)), .sh (dTI b), .no] ?_
  show fB_within [.sh (if t then dTI a else .lst (a.map .int)), .sh (dTI b), .no] = _
  simp only [fB_within, q_ret, q_xTk, q_pure, q_yC, q_yN, h, q_bnd, q_unl0, q_rdA, q_rd_ow, q_rdA0, Option.bind_some, Option.map_some, gAll_map, q_tk_sh]
theorem e_withinL (a b : List Int) : φ_within [.lst (a.map .int), dTI b] = bl (a.all fun p => decide (p ∈ b)) := e_within false a b
theorem e_is_whole (a : Int) : φ_is_whole [.int a] = bl true := by
  refine run_sh rfl [.sh (.int a)] ?_
  show fB_is_whole [.sh (.int a)] = _
  simp [fB_is_whole]
theorem e_is_from (a lo hi : Int) : φ_is_from [.int a, .int lo, .int hi] = bl (decide (lo ≤ a) && decide (a ≤ hi)) := by
  refine run_sh rfl [.sh (.int a), .sh (.int lo), .sh (.int hi)] ?_
  show fB_is_from [.sh (.int a), .sh (.int lo), .sh (.int hi)] = _
  simp [fB_is_from, e_is_whole, bl, gLe, g2I]
  cases h : decide (lo ≤ a) <;> simp
/-! ### brought_by -/
def rest (f : List Int) (p : Int) : List Int := f.filter fun q => !(q == p)
def broB (here : List (List Int)) (f : List Int) (p : Int) : Bool := here.any fun o => (rest f p).all fun q => decide (q ∈ o)
def brought (here : List (List Int)) (f : List Int) : List Int := f.filter (broB here f)
theorem e_brought (here : List (List Int)) (f : List Int) (hf : f.length < sizeLine) : φ_brought_by [.lst (here.map dTI), dTI f] = some (.ok (.sh (dTI (brought here f))) .non) := by
  let F : D := .lst (here.map dTI)
  let I : List Int → Lf.Env → Prop := fun dn ρ => ∃ s3 s4 : Slot, ρ = [.sh F, .sh (dTI f), .ow (.lst ((dn.filter (broB here f)).map .int)), s3, s4, .no]
  have body := for_inv (dc := false) (g := gN 3) (fb := sSeq (sSet 4 (xLc (xIt (xVar 1)) (gN 5) (xCmpT gNe (xVar 5) (xVar 3)) (xVar 5) [5])) (sIf (xTr (xPure gAny (yCons (xLc (xIt (xVar 0)) (gN 5) (xYes) (xCall φ_within (yCons (xVar 4) (yCons (xVar 5) (yNil)))) [5]) (yNil)))) (sDo (xMutS isL mAppend (xVar 2) (xCons (xShK (xVar 3)) (xNil)))) (sSkip)))
    D.int I f [] [.sh F, .sh (dTI f), .ow (.lst []), .no, .no, .no] rfl ⟨.no, .no, rfl⟩ fun dn p rr ρ er ⟨s3, s4, e⟩ => by
      subst e
      have h1 := lc_map (fi := xIt (xVar 1)) (g := gN 5) (ct := xCmpT gNe (xVar 5) (xVar 3)) (fe := xVar 5) (vs := [5]) (ρ := [.sh F, .sh (dTI f), .ow (.lst ((dn.filter (broB here f)).map .int)), .sh (.int p), s4, .no]) (u := none) (dc := false) (ρ1 := [.sh F, .sh (dTI f), .ow (.lst ((dn.filter (broB here f)).map .int)), .sh (.int p), s4, .no])
        D.int f (fun q => !(q == p)) D.int (fun q => [.sh F, .sh (dTI f), .ow (.lst ((dn.filter (broB here f)).map .int)), .sh (.int p), s4, .sh (.int q)]) rfl rfl (fun _ _ => rfl) (fun q _ => by simp [gNe_int]) (fun q _ _ => by simp) (fun _ _ => ⟨rfl, rfl⟩)
      have h2 := lc_all (fi := xIt (xVar 0)) (g := gN 5) (fe := xCall φ_within (yCons (xVar 4) (yCons (xVar 5) (yNil)))) (vs := [5]) (ρ := [.sh F, .sh (dTI f), .ow (.lst ((dn.filter (broB here f)).map .int)), .sh (.int p), .ow (.lst ((rest f p).map .int)), .no]) (u := none) (dc := false) (ρ1 := [.sh F, .sh (dTI f), .ow (.lst ((dn.filter (broB here f)).map .int)), .sh (.int p), .ow (.lst ((rest f p).map .int)), .no])
        dTI here (fun o => .bl ((rest f p).all fun q => decide (q ∈ o))) (fun o => [.sh F, .sh (dTI f), .ow (.lst ((dn.filter (broB here f)).map .int)), .sh (.int p), .ow (.lst ((rest f p).map .int)), .sh (dTI o)]) rfl rfl (fun _ _ => rfl) (fun o _ => by simp [e_withinL, bl]) (fun _ _ => ⟨rfl, rfl⟩)
      have hlen : ((dn.filter (broB here f)).map D.int).length < sizeLine := by
        rw [List.length_map]
        refine Nat.lt_of_le_of_lt (List.length_filter_le _ _) (Nat.lt_of_le_of_lt ?_ hf)
        have er : f = dn ++ p :: rr := er
        rw [er, List.length_append]
        omega
      refine ⟨_, _, rfl, ?_, .sh (.int p), .ow (.lst ((rest f p).map .int)), rfl⟩
      show sSeq _ _ [.sh F, .sh (dTI f), .ow (.lst ((dn.filter (broB here f)).map .int)), .sh (.int p), s4, .no] = _
      simp only [q_seq, q_set, q_xTk, h1, q_bnd, q_unl0, q_tk_ow, Option.map_some, q_sl_ow, List.set_cons_succ, List.set_cons_zero]
      show sIf _ _ _ [.sh F, .sh (dTI f), .ow (.lst ((dn.filter (broB here f)).map .int)), .sh (.int p), .ow (.lst ((rest f p).map .int)), .no] = _
      simp only [q_if, q_tr, q_pure, q_yC, q_yN, h2, q_bnd, q_unl0, q_rdA, q_rd_ow, q_rdA0, Option.bind_some, Option.map_some, gAny_map, q_rd_sh, q_tru_b]
      by_cases hb : broB here f p = true
      · have hb' : (here.any fun o => (rest f p).all fun q => decide (q ∈ o)) = true := hb
        rw [if_pos hb', q_do, q_append (ds := (dn.filter (broB here f)).map .int) (x := .int p) rfl (by rw [q_xC (q_shK rfl)]; rfl) hlen, q_bnd]
        rw [List.filter_append, List.filter_cons, if_pos hb, List.filter_nil, List.map_append]
        rfl
      · have hb' : ¬ (here.any fun o => (rest f p).all fun q => decide (q ∈ o)) = true := hb
        rw [if_neg hb', q_skip, List.filter_append, List.filter_cons, if_neg hb, List.filter_nil, List.append_nil]
  obtain ⟨ρ', h1, s3, s4, h2⟩ := body
  subst h2
  have hF := for_eq (fi := xIt (xVar 1)) (ρ := [.sh F, .sh (dTI f), .ow (.lst []), .no, .no, .no]) (ρ1 := [.sh F, .sh (dTI f), .ow (.lst []), .no, .no, .no]) (ds := f.map .int) (u := none) (dc := false) rfl h1
  refine run_sh rfl [.sh F, .sh (dTI f), .ow (.lst ((brought here f).map .int)), s3, s4, .no] ?_
  show fB_brought_by [.sh F, .sh (dTI f), .no, .no, .no, .no] = _
  unfold fB_brought_by
  rw [q_seq]
  have e1 : sSet 2 (xLst xNil) [.sh F, .sh (dTI f), .no, .no, .no, .no] = some (.ok .nx [.sh F, .sh (dTI f), .ow (.lst []), .no, .no, .no]) := rfl
  rw [e1, q_bnd]
  dsimp only
  rw [q_seq, hF, q_bnd]
  rfl
/-! ### face_may, faces_at, steps_on -/
def mayB (here : List (List Int)) (f : List Int) : Bool := here.all fun o => (brought here f).any fun p => !decide (p ∈ o)
theorem e_may (here : List (List Int)) (f : List Int) (hf : f.length < sizeLine) : φ_face_may [.lst (here.map dTI), dTI f] = bl (mayB here f) := by
  let F : D := .lst (here.map dTI)
  have h2 := fun o : List Int => lc_all (fi := xIt (xVar 2)) (g := gN 4) (fe := xBin gNin (xVar 4) (xVar 3)) (vs := [4]) (ρ := [.sh F, .sh (dTI f), .sh (dTI (brought here f)), .sh (dTI o), .no]) (u := none) (dc := false) (ρ1 := [.sh F, .sh (dTI f), .sh (dTI (brought here f)), .sh (dTI o), .no])
    D.int (brought here f) (fun p => .bl (!decide (p ∈ o))) (fun p => [.sh F, .sh (dTI f), .sh (dTI (brought here f)), .sh (dTI o), .sh (.int p)]) rfl rfl (fun _ _ => rfl) (fun p _ => by simp [gNin_t]) (fun _ _ => ⟨rfl, rfl⟩)
  have h1 := lc_all (fi := xIt (xVar 0)) (g := gN 3) (fe := xPure gAny (yCons (xLc (xIt (xVar 2)) (gN 4) (xYes) (xBin gNin (xVar 4) (xVar 3)) [4]) (yNil))) (vs := [3]) (ρ := [.sh F, .sh (dTI f), .sh (dTI (brought here f)), .no, .no]) (u := none) (dc := false) (ρ1 := [.sh F, .sh (dTI f), .sh (dTI (brought here f)), .no, .no])
    dTI here (fun o => .bl ((brought here f).any fun p => !decide (p ∈ o))) (fun o => [.sh F, .sh (dTI f), .sh (dTI (brought here f)), .sh (dTI o), .no]) rfl rfl (fun _ _ => rfl)
    (fun o _ => by
      simp only [q_xSh, q_pure, q_yC, q_yN, h2, q_bnd, q_unl0, q_rdA, q_rd_ow, q_rdA0, Option.bind_some, Option.map_some, gAny_map, q_tk_sh, q_dat_sh]) (fun _ _ => ⟨rfl, rfl⟩)
  refine run_sh rfl [.sh F, .sh (dTI f), .sh (dTI (brought here f)), .no, .no] ?_
  show fB_face_may [.sh F, .sh (dTI f), .no, .no, .no] = _
  unfold fB_face_may
  have e1 : sSet 2 (xCall φ_brought_by (yCons (xVar 0) (yCons (xVar 1) (yNil)))) [.sh F, .sh (dTI f), .no, .no, .no] = some (.ok .nx [.sh F, .sh (dTI f), .sh (dTI (brought here f)), .no, .no]) := by
    simp [F, e_brought here f hf]
  rw [q_seq, e1, q_bnd]
  simp only [q_ret, q_xTk, q_pure, q_yC, q_yN, h1, q_bnd, q_unl0, q_rdA, q_rd_ow, q_rdA0, Option.bind_some, Option.map_some, gAll_map, q_tk_sh]
  rfl
def stk (n k : Int) (fs : List (List Int)) : D := .tup [.int n, .int k, .tup (fs.map dTI)]
theorem atI_nat {α : Type} {xs : List α} {i : Nat} {x : α} (h : xs[i]? = some x) : atI xs (i : Int) = some x := by
  have hl := (List.getElem?_eq_some_iff.mp h).1
  unfold atI ixN
  rw [if_pos (by omega), if_pos (by omega)]
  exact h
theorem gIx2 (n k : Int) (fs : List (List Int)) : gIx (stk n k fs) (.int 2) = some (.sh (.tup (fs.map dTI))) := by
  unfold stk gIx
  dsimp only
  rw [show (2 : Int) = ((2 : Nat) : Int) from rfl, atI_nat (x := D.tup (fs.map dTI)) rfl]; rfl
theorem gIx1 (n k : Int) (fs : List (List Int)) : gIx (stk n k fs) (.int 1) = some (.sh (.int k)) := by
  unfold stk gIx
  dsimp only
  rw [show (1 : Int) = ((1 : Nat) : Int) from rfl, atI_nat (x := D.int k) rfl]; rfl
/-- the face of a number -/
def fcI (fs : List (List Int)) (i : Int) : List Int := fs.getD i.toNat []
def okIx (fs : List (List Int)) (i : Int) : Prop := 0 ≤ i ∧ i < fs.length
theorem gIxF {fs : List (List Int)} {i : Int} (h : okIx fs i) : gIx (.tup (fs.map dTI)) (.int i) = some (.sh (dTI (fcI fs i))) := by
  obtain ⟨h0, h1⟩ := h
  unfold gIx
  dsimp only
  have hl : i.toNat < fs.length := by omega
  have e : (fs.map dTI)[i.toNat]? = some (dTI (fcI fs i)) := by
    rw [List.getElem?_map, List.getElem?_eq_getElem hl]
    unfold fcI
    rw [List.getD_eq_getElem?_getD, List.getElem?_eq_getElem hl]; rfl
  have := atI_nat e
  rw [Int.toNat_of_nonneg h0] at this
  rw [this]; rfl
theorem e_faces_at (n k : Int) (fs : List (List Int)) (lot : List Int) (hl : ∀ i ∈ lot, okIx fs i) : φ_faces_at [stk n k fs, dTI lot] = some (.ok (.ow (.lst ((lot.map (fcI fs)).map dTI))) .non) := by
  have h := lc_all (fi := xIt (xVar 1)) (g := gN 2) (fe := xBin gIx (xBin gIx (xVar 0) (xC (.int 2))) (xVar 2)) (vs := [2]) (ρ := [.sh (stk n k fs), .sh (dTI lot), .no]) (u := none) (dc := false) (ρ1 := [.sh (stk n k fs), .sh (dTI lot), .no])
    D.int lot (fun i => dTI (fcI fs i)) (fun i => [.sh (stk n k fs), .sh (dTI lot), .sh (.int i)]) rfl rfl (fun _ _ => rfl) (fun i hi => by simp [gIx2, gIxF (hl i hi)]) (fun _ _ => ⟨rfl, rfl⟩)
  refine run_ow rfl [.sh (stk n k fs), .sh (dTI lot), .no] ?_
  show fB_faces_at [.sh (stk n k fs), .sh (dTI lot), .no] = _
  unfold fB_faces_at
  simp only [q_ret, q_xTk, h, q_bnd, q_unl0, q_tk_ow, Option.map_some, List.map_map]
  rfl
def nums (fs : List (List Int)) : List Int := (List.range fs.length).map fun (i : Nat) => (i : Int)
theorem rangeD_eq (n : Nat) : rangeD n = ((List.range n).map fun (i : Nat) => (i : Int)).map D.int := by
  unfold rangeD
  rw [List.map_map]; rfl
theorem nums_ok {fs : List (List Int)} {i : Int} (h : i ∈ nums fs) : okIx fs i := by
  obtain ⟨j, hj, rfl⟩ := List.mem_map.mp h
  have := List.mem_range.mp hj
  exact ⟨by omega, by omega⟩
def stepsL (fs : List (List Int)) (lot : List Int) : List Int := ((nums fs).filter fun i => !decide (i ∈ lot)).filter fun i => mayB (lot.map (fcI fs)) (fcI fs i)
theorem q_rng {fs : Ev (List Val)} {ρ ρ1 : Lf.Env} {r : Val} {j : Int} (h : fs ρ = some (.ok [r] ρ1)) (h1 : rd ρ1 r = some (.int j)) (h2 : -1000 ≤ j ∧ j ≤ 16777216) : xRng fs ρ = some (.ok ⟨((List.range j.toNat).map fun (i : Nat) => (i : Int)).map D.int, none, false⟩ ρ1) := by
  unfold xRng
  rw [h, q_bnd]
  simp only [q_rdA, h1, q_rdA0, Option.map_some, Option.bind_some]
  rw [if_pos h2, rangeD_eq]
theorem e_steps (n k : Int) (fs : List (List Int)) (lot : List Int) (hl : ∀ i ∈ lot, okIx fs i) (hn : fs.length ≤ 1000) (hf : ∀ f ∈ fs, f.length < sizeLine) : φ_steps_on [stk n k fs, dTI lot] = some (.ok (.ow (.lst ((stepsL fs lot).map .int))) .non) := by
  let S := stk n k fs
  let L : D := .lst ((lot.map (fcI fs)).map dTI)
  let ot := (nums fs).filter fun i => !decide (i ∈ lot)
  have hfc : ∀ i, okIx fs i → (fcI fs i).length < sizeLine := fun i ⟨h0, h1⟩ => by
    have hl : i.toNat < fs.length := by omega
    unfold fcI
    rw [List.getD_eq_getElem?_getD, List.getElem?_eq_getElem hl]
    exact hf _ (List.getElem_mem hl)
  have e1 : sSet 2 (xCall φ_faces_at (yCons (xVar 0) (yCons (xVar 1) (yNil)))) [.sh S, .sh (dTI lot), .no, .no, .no] = some (.ok .nx [.sh S, .sh (dTI lot), .ow L, .no, .no]) := by
    simp [-List.map_map, S, L, e_faces_at n k fs lot hl]
  have hr : xRng (yCons (xPure gLen (yCons (xBin gIx (xVar 0) (xC (.int 2))) (yNil))) (yNil)) [.sh S, .sh (dTI lot), .ow L, .no, .no] = some (.ok ⟨(nums fs).map .int, none, false⟩ [.sh S, .sh (dTI lot), .ow L, .no, .no]) := by
    have := q_rng (fs := yCons (xPure gLen (yCons (xBin gIx (xVar 0) (xC (.int 2))) (yNil))) (yNil)) (ρ := [.sh S, .sh (dTI lot), .ow L, .no, .no]) (ρ1 := [.sh S, .sh (dTI lot), .ow L, .no, .no]) (r := .sh (.int fs.length)) (j := fs.length) (by simp [S, gIx2, gLen]) rfl (by omega)
    rw [Int.toNat_natCast] at this
    exact this
  have h3 := lc_map (fi := xRng (yCons (xPure gLen (yCons (xBin gIx (xVar 0) (xC (.int 2))) (yNil))) (yNil))) (g := gN 4) (ct := xCmpT gNin (xVar 4) (xVar 1)) (fe := xVar 4) (vs := [4]) (ρ := [.sh S, .sh (dTI lot), .ow L, .no, .no]) (u := none) (dc := false) (ρ1 := [.sh S, .sh (dTI lot), .ow L, .no, .no])
    D.int (nums fs) (fun i => !decide (i ∈ lot)) D.int (fun i => [.sh S, .sh (dTI lot), .ow L, .no, .sh (.int i)]) hr rfl (fun _ _ => rfl) (fun i _ => by simp [gNin_t]) (fun i _ _ => by simp) (fun _ _ => ⟨rfl, rfl⟩)
  have h4 := lc_map (fi := xIt (xVar 3)) (g := gN 4) (ct := xTr (xCall φ_face_may (yCons (xVar 2) (yCons (xLn (xBin gIx (xBin gIx (xVar 0) (xC (.int 2))) (xVar 4))) (yNil))))) (fe := xVar 4) (vs := [4]) (ρ := [.sh S, .sh (dTI lot), .ow L, .ow (.lst (ot.map .int)), .no]) (u := some 3) (dc := false) (ρ1 := [.sh S, .sh (dTI lot), .ow L, .lk (.lst (ot.map .int)), .no])
    D.int ot (fun i => mayB (lot.map (fcI fs)) (fcI fs i)) D.int (fun i => [.sh S, .sh (dTI lot), .ow L, .lk (.lst (ot.map .int)), .sh (.int i)]) rfl rfl (fun _ _ => rfl)
    (fun i hi => by
      have ok := nums_ok (List.mem_filter.mp hi).1
      simp [-List.map_map, S, gIx2, gIxF ok, L, e_may _ _ (hfc i ok), bl]) (fun i _ _ => by simp) (fun _ _ => ⟨rfl, rfl⟩)
  refine run_ow rfl [.sh S, .sh (dTI lot), .ow L, .ow (.lst (ot.map .int)), .no] ?_
  show fB_steps_on [.sh S, .sh (dTI lot), .no, .no, .no] = _
  unfold fB_steps_on
  rw [q_seq, e1, q_bnd]
  have e2 : sSet 3 (xLc (xRng (yCons (xPure gLen (yCons (xBin gIx (xVar 0) (xC (.int 2))) (yNil))) (yNil))) (gN 4) (xCmpT gNin (xVar 4) (xVar 1)) (xVar 4) [4]) [.sh S, .sh (dTI lot), .ow L, .no, .no] = some (.ok .nx [.sh S, .sh (dTI lot), .ow L, .ow (.lst (ot.map .int)), .no]) := by
    rw [q_set, q_xTk, h3]; rfl
  dsimp only
  rw [q_seq, e2, q_bnd]
  dsimp only
  rw [q_ret, q_xTk, h4]
  rfl
/-! ### put_to -/
theorem sortL_int (ns : List Int) : sortL (ns.map .int) = some ((sortI ns).map .int) := by
  unfold sortL
  rw [asIs_int]
theorem e_put (lot : List Int) (i : Int) (hl : lot.length + 1 ≤ sizeLine) : φ_put_to [dTI lot, .int i] = some (.ok (.sh (dTI (sortI (lot ++ [i])))) .non) := by
  refine run_sh rfl [.sh (dTI lot), .sh (.int i)] ?_
  show fB_put_to [.sh (dTI lot), .sh (.int i)] = _
  have e1 : gAdd (dTI lot) (.tup [.int i]) = some (.sh (.tup ((lot ++ [i]).map .int))) := by
    unfold gAdd dTI
    dsimp only
    rw [if_pos (by rw [List.length_map]; exact hl), List.map_append]; rfl
  have e2 : gSort [.tup ((lot ++ [i]).map .int)] = some (.ow (.lst ((sortI (lot ++ [i])).map .int))) := by
    unfold gSort
    dsimp only
    rw [sortL_int]; rfl
  have e3 : (yCons (xPure gSort (yCons (xBin gAdd (xVar 0) (xTup (xCons (xShK (xVar 1)) (xNil)))) (yNil))) (yNil)) [.sh (dTI lot), .sh (.int i)] = some (.ok [.ow (.lst ((sortI (lot ++ [i])).map .int))] [.sh (dTI lot), .sh (.int i)]) := by
    simp only [q_yC, q_pure, q_bin, q_var, List.getElem?_cons_zero, q_bnd, q_tup, q_xC (q_shK (i := 1) (ρ := [.sh (dTI lot), .sh (.int i)]) rfl), q_xN, q_fin2, q_rd_sh, Option.bind_some, e1, Option.map_some, q_yN, q_rdA, q_rdA0, e2]
  unfold fB_put_to
  simp only [q_ret, q_xTk, q_pure, e3, q_bnd, q_rdA, q_rd_ow, q_rdA0, Option.bind_some, Option.map_some, gTuple, q_tk_sh]
  rfl
end K21

set_option Elab.async false
set_option linter.all false
set_option maxRecDepth 100000
set_option maxHeartbeats 1000000
/-! k21: the lots that can be laid. -/
namespace K21
open PySem PySem.Spec L2 Lf
/-- lots that d steps reach, as bits -/
inductive ReachD (fs : List (List Int)) : Nat → Nat → Prop
  | zero : ReachD fs 0 0
  | step {d a i : Nat} : ReachD fs d a → i < fs.length → a.testBit i = false → mayB ((lotOf fs.length a).map (fcI fs)) (fcI fs (i : Int)) = true → ReachD fs (d + 1) (a + 2 ^ i)
theorem ReachD.lt {fs : List (List Int)} {d a : Nat} (h : ReachD fs d a) : a < 2 ^ fs.length := by
  induction h with
  | zero => exact Nat.two_pow_pos _
  | @step d a i h1 h2 h3 h4 ih =>
    rw [add_or h3]
    exact Nat.or_lt_two_pow ih (Nat.pow_lt_pow_right (by omega) h2)
theorem sortI_len (ns : List Int) : (sortI ns).length = ns.length := (List.mergeSort_perm ns _).length_eq
theorem ReachD.len {fs : List (List Int)} {d a : Nat} (h : ReachD fs d a) : (lotOf fs.length a).length = d := by
  induction h with
  | zero =>
    rw [List.length_eq_zero_iff, lotOf]
    exact List.filter_eq_nil_iff.mpr fun i _ => by simp
  | @step d a i h1 h2 h3 h4 ih => rw [← lotOf_put h2 h3, sortI_len, List.length_append, ih]; rfl
theorem lotOf_le (m a : Nat) : (lotOf m a).length ≤ m := by
  unfold lotOf
  refine Nat.le_trans (List.length_filter_le _ _) ?_
  unfold numsN
  rw [List.length_map, List.length_range]
  exact Nat.le_refl _
theorem lotOf_zero (m : Nat) : lotOf m 0 = [] := by
  rw [lotOf]
  exact List.filter_eq_nil_iff.mpr fun i _ => by simp
theorem steps_mem {fs : List (List Int)} {a : Nat} {i : Int} : i ∈ stepsL fs (lotOf fs.length a) ↔ ∃ j : Nat, i = j ∧ j < fs.length ∧ a.testBit j = false ∧ mayB ((lotOf fs.length a).map (fcI fs)) (fcI fs (j : Int)) = true := by
  unfold stepsL
  rw [List.mem_filter, List.mem_filter, show nums fs = numsN fs.length from rfl, numsN_mem]
  constructor
  · rintro ⟨⟨⟨h0, h1⟩, h2⟩, h3⟩
    refine ⟨i.toNat, by omega, by omega, ?_, by rw [Int.toNat_of_nonneg h0]; exact h3⟩
    have h2 : ¬ i ∈ lotOf fs.length a := by simpa using h2
    rw [lotOf_mem] at h2
    cases q : a.testBit i.toNat with
    | false => rfl
    | true => exact absurd ⟨⟨h0, h1⟩, q⟩ h2
  · rintro ⟨j, rfl, h1, h2, h3⟩
    refine ⟨⟨⟨by omega, by omega⟩, ?_⟩, h3⟩
    have : ¬ (j : Int) ∈ lotOf fs.length a := by
      rw [lotOf_mem, Int.toNat_natCast, h2]
      simp
    simpa using this
/-- such keys are few -/
def Lots (m : Nat) (ks : List (List Int)) : Prop := ∀ q ∈ ks, ∃ b, b < 2 ^ m ∧ q = lotOf m b
theorem lots_few {m : Nat} {ks : List (List Int)} (hn : ks.Nodup) (h : Lots m ks) : ks.length ≤ 2 ^ m := by
  have := List.Nodup.length_le_of_subset (l₂ := (List.range (2 ^ m)).map (lotOf m)) hn fun q hq => by
    obtain ⟨b, hb, e⟩ := h q hq
    exact List.mem_map.mpr ⟨b, List.mem_range.mpr hb, e.symm⟩
  rwa [List.length_map, List.length_range] at this
theorem kd_few {m : Nat} {kvs : List (List Int × V)} (d : KD kvs) (h : Lots m (kvs.map (·.1))) : kvs.length ≤ 2 ^ m := by
  have := lots_few d.nd h
  rwa [List.length_map] at this
abbrev putB : Ev Fl := sSeq (sSet 6 (xCall φ_put_to (yCons (xVar 4) (yCons (xVar 5) (yNil))))) (sDput (xVar 3) (xVar 6) (xBin gAdd (xGet2 (xVar 3) (xVar 6) (xC (.int 0))) (xBin gDget (xVar 2) (xVar 4))))
theorem e_putB {S : D} {s1 s6 : Slot} {lay kvs : List (List Int × V)} {L : List Int} {i : Int} (hl : L.length + 1 ≤ sizeLine) (h1 : KD lay) (h2 : KD kvs) (hL : L ∈ lay.map (·.1)) (hz : kvs.length < sizeLine) :
    ∃ v : Int, putB [.sh S, s1, .lk (.dt lay), .ow (.dt kvs), .sh (dTI L), .sh (.int i), s6] = some (.ok .nx [.sh S, s1, .lk (.dt lay), .ow (.dt (putK kvs (sortI (L ++ [i])) (.int v))), .sh (dTI L), .sh (.int i), .sh (dTI (sortI (L ++ [i])))]) := by
  obtain ⟨v1, e1⟩ := h2.getD (sortI (L ++ [i])) 0
  obtain ⟨v2, e2⟩ := h1.val hL
  refine ⟨v1 + v2, ?_⟩
  unfold putB
  rw [q_seq]
  have s : sSet 6 (xCall φ_put_to (yCons (xVar 4) (yCons (xVar 5) (yNil)))) [.sh S, s1, .lk (.dt lay), .ow (.dt kvs), .sh (dTI L), .sh (.int i), s6] = some (.ok .nx [.sh S, s1, .lk (.dt lay), .ow (.dt kvs), .sh (dTI L), .sh (.int i), .sh (dTI (sortI (L ++ [i])))]) := by
    simp [e_put L i hl]
  rw [s, q_bnd]
  dsimp only
  have d1 : dictAt (.dt kvs) (dTI (sortI (L ++ [i]))) = some (valV kvs (sortI (L ++ [i]))) := by
    show (asIs ((sortI (L ++ [i])).map D.int)).map (fun ns => valV kvs ns) = _
    rw [asIs_int]; rfl
  have d2 : dictAt (.dt lay) (dTI L) = some (valV lay L) := by
    show (asIs (L.map D.int)).map (fun ns => valV lay ns) = _
    rw [asIs_int]; rfl
  have g1 : gGet2 (.dt kvs) (dTI (sortI (L ++ [i]))) (.int 0) = some (.sh (.int v1)) := by
    unfold gGet2
    rw [d1]
    show (vD ((valV kvs (sortI (L ++ [i]))).getD (V.int 0))).map Val.sh = _
    rw [e1]; rfl
  have g2 : gDget (.dt lay) (dTI L) = some (.sh (.int v2)) := by
    unfold gDget
    rw [d2, e2]; rfl
  have p1 : dputD (.dt kvs) (dTI (sortI (L ++ [i]))) (.int (v1 + v2)) = some (.dt (putK kvs (sortI (L ++ [i])) (.int (v1 + v2)))) := by
    show (asIs ((sortI (L ++ [i])).map D.int)).bind (fun ns => if kvs.length < sizeLine then some (D.dt (putK kvs ns (.int (v1 + v2)))) else none) = _
    rw [asIs_int, Option.bind_some, if_pos hz]
  have ga : xBin gAdd (xGet2 (xVar 3) (xVar 6) (xC (.int 0))) (xBin gDget (xVar 2) (xVar 4)) [.sh S, s1, .lk (.dt lay), .ow (.dt kvs), .sh (dTI L), .sh (.int i), .sh (dTI (sortI (L ++ [i])))] = some (.ok (.sh (.int (v1 + v2))) [.sh S, s1, .lk (.dt lay), .ow (.dt kvs), .sh (dTI L), .sh (.int i), .sh (dTI (sortI (L ++ [i])))]) := by
    simp [xGet2, isDict, fin3, g1, g2, gAdd]
  unfold sDput
  rw [ga, q_bnd]
  simp [ownAt, dV, p1]
end K21

set_option Elab.async false
set_option linter.all false
set_option maxRecDepth 100000
set_option maxHeartbeats 1000000
/-! k21: laid_of. -/
namespace K21
open PySem PySem.Spec L2 Lf
abbrev inB : Ev Fl := sFor (xIt (xCall φ_steps_on (yCons (xVar 0) (yCons (xVar 4) (yNil))))) (gN 5) putB
/-- what is asked of the stack -/
structure Ok0 (fs : List (List Int)) : Prop where
  n : fs.length ≤ 9
  f : ∀ f ∈ fs, f.length < sizeLine
theorem Ok0.z {fs : List (List Int)} (h : Ok0 fs) : 2 ^ fs.length ≤ 512 := by
  have := Nat.pow_le_pow_right (n := 2) (by omega) h.n
  omega
theorem sz9 : 2000 < sizeLine := by unfold sizeLine; omega
theorem putK_lots {m : Nat} {kvs : List (List Int × V)} {k : List Int} {v : V} (h : Lots m (kvs.map (·.1))) (hk : ∃ b, b < 2 ^ m ∧ k = lotOf m b) : Lots m ((putK kvs k v).map (·.1)) := fun q hq => by
  rcases putK_mem.mp hq with z | z
  · exact h q z
  · rw [z]; exact hk
theorem e_inB {fs : List (List Int)} (ok : Ok0 fs) {n k : Int} {s1 s5 s6 : Slot} {lay kvs : List (List Int × V)} {d a : Nat} (hr : ReachD fs d a) (h1 : KD lay) (h2 : KD kvs) (hL : lotOf fs.length a ∈ lay.map (·.1)) (h3 : Lots fs.length (kvs.map (·.1))) :
    ∃ (kvs' : List (List Int × V)) (s5' s6' : Slot), inB [.sh (stk n k fs), s1, .lk (.dt lay), .ow (.dt kvs), .sh (dTI (lotOf fs.length a)), s5, s6] = some (.ok .nx [.sh (stk n k fs), s1, .lk (.dt lay), .ow (.dt kvs'), .sh (dTI (lotOf fs.length a)), s5', s6']) ∧ KD kvs' ∧ Lots fs.length (kvs'.map (·.1)) ∧
      ∀ q, q ∈ kvs'.map (·.1) ↔ q ∈ kvs.map (·.1) ∨ ∃ i : Nat, i < fs.length ∧ a.testBit i = false ∧ mayB ((lotOf fs.length a).map (fcI fs)) (fcI fs (i : Int)) = true ∧ q = lotOf fs.length (a + 2 ^ i) := by
  have e1 := e_steps n k fs (lotOf fs.length a) (fun i hi => by
    have := (lotOf_mem.mp hi).1
    exact ⟨this.1, this.2⟩) (by have := ok.n; omega) ok.f
  let S := stk n k fs
  let L := lotOf fs.length a
  have hll : L.length + 1 ≤ sizeLine := by
    have := lotOf_le fs.length a
    have := ok.n
    have := sz9
    show (lotOf fs.length a).length + 1 ≤ sizeLine
    omega
  let I : List Int → Lf.Env → Prop := fun dn ρ => ∃ (kv : List (List Int × V)) (t5 t6 : Slot), ρ = [.sh S, s1, .lk (.dt lay), .ow (.dt kv), .sh (dTI L), t5, t6] ∧ KD kv ∧ Lots fs.length (kv.map (·.1)) ∧ ∀ q, q ∈ kv.map (·.1) ↔ q ∈ kvs.map (·.1) ∨ ∃ i ∈ dn, q = sortI (L ++ [i])
  obtain ⟨ρ', hf, kv, t5, t6, er, hk, hlo, hm⟩ := for_inv (dc := false) (g := gN 5) (fb := putB) D.int I (stepsL fs L) [] [.sh S, s1, .lk (.dt lay), .ow (.dt kvs), .sh (dTI L), s5, s6] rfl
    ⟨kvs, s5, s6, rfl, h2, h3, fun q => by simp⟩ fun dn i rr ρ er ⟨kv, t5, t6, e, hk, hlo, hm⟩ => by
      subst e
      have hi : i ∈ stepsL fs L := by
        rw [show stepsL fs L = dn ++ i :: rr from er]; simp
      obtain ⟨j, rfl, hj, hb, hmay⟩ := steps_mem.mp hi
      obtain ⟨v, e⟩ := e_putB (S := S) (s1 := s1) (s6 := t6) (i := (j : Int)) hll h1 hk hL (by
        have := kd_few hk hlo
        have := ok.z
        have := sz9
        omega)
      refine ⟨_, _, rfl, e, _, _, _, rfl, hk.put _ _, putK_lots hlo ⟨a + 2 ^ j, (hr.step hj hb hmay).lt, lotOf_put hj hb⟩, fun q => ?_⟩
      rw [putK_mem, hm]
      constructor
      · rintro ((h | ⟨i, hi, h⟩) | h)
        · exact .inl h
        · exact .inr ⟨i, List.mem_append.mpr (.inl hi), h⟩
        · exact .inr ⟨_, List.mem_append.mpr (.inr (List.mem_singleton.mpr rfl)), h⟩
      · rintro (h | ⟨i, hi, h⟩)
        · exact .inl (.inl h)
        · rcases List.mem_append.mp hi with hi | hi
          · exact .inl (.inr ⟨i, hi, h⟩)
          · rw [List.mem_singleton.mp hi] at h
            exact .inr h
  subst er
  refine ⟨kv, t5, t6, ?_, hk, hlo, fun q => ?_⟩
  · have hi : (xIt (xCall φ_steps_on (yCons (xVar 0) (yCons (xVar 4) (yNil))))) [.sh S, s1, .lk (.dt lay), .ow (.dt kvs), .sh (dTI L), s5, s6] = some (.ok ⟨(stepsL fs L).map .int, none, false⟩ [.sh S, s1, .lk (.dt lay), .ow (.dt kvs), .sh (dTI L), s5, s6]) := by
      simp [S, L, e1]
    exact for_eq hi hf
  · rw [hm]
    constructor
    · rintro (h | ⟨i, hi, h⟩)
      · exact .inl h
      · obtain ⟨j, rfl, hj, hb, hmay⟩ := steps_mem.mp hi
        exact .inr ⟨j, hj, hb, hmay, by rw [h]; exact lotOf_put hj hb⟩
    · rintro (h | ⟨j, hj, hb, hmay, h⟩)
      · exact .inl h
      · exact .inr ⟨j, steps_mem.mpr ⟨j, rfl, hj, hb, hmay⟩, by rw [h]; exact (lotOf_put hj hb).symm⟩
abbrev outB : Ev Fl := sFor (xIt (xVar 2)) (gN 4) inB
theorem lot_of {m : Nat} {lay : List (List Int × V)} : dtItems lay = (lay.map (·.1)).map dTI := by
  unfold dtItems
  rw [List.map_map]; rfl
/-- one layer more -/
theorem e_outB {fs : List (List Int)} (ok : Ok0 fs) {n k : Int} {s1 s4 s5 s6 : Slot} {lay : List (List Int × V)} {d : Nat} (h1 : KD lay) (hd : ∀ q, q ∈ lay.map (·.1) ↔ ∃ a, ReachD fs d a ∧ q = lotOf fs.length a) :
    ∃ (kvs' : List (List Int × V)) (s4' s5' s6' : Slot), outB [.sh (stk n k fs), s1, .ow (.dt lay), .ow (.dt []), s4, s5, s6] = some (.ok .nx [.sh (stk n k fs), s1, .ow (.dt lay), .ow (.dt kvs'), s4', s5', s6']) ∧ KD kvs' ∧ Lots fs.length (kvs'.map (·.1)) ∧
      ∀ q, q ∈ kvs'.map (·.1) ↔ ∃ a, ReachD fs (d + 1) a ∧ q = lotOf fs.length a := by
  let S := stk n k fs
  let I : List (List Int) → Lf.Env → Prop := fun dn ρ => ∃ (kv : List (List Int × V)) (t4 t5 t6 : Slot), ρ = [.sh S, s1, .lk (.dt lay), .ow (.dt kv), t4, t5, t6] ∧ KD kv ∧ Lots fs.length (kv.map (·.1)) ∧ ∀ q, q ∈ kv.map (·.1) ↔ ∃ (a i : Nat), lotOf fs.length a ∈ dn ∧ ReachD fs d a ∧ i < fs.length ∧ a.testBit i = false ∧ mayB ((lotOf fs.length a).map (fcI fs)) (fcI fs (i : Int)) = true ∧ q = lotOf fs.length (a + 2 ^ i)
  obtain ⟨ρ', hf, kv, t4, t5, t6, er, hk, hlo, hm⟩ := for_inv (dc := true) (g := gN 4) (fb := inB) dTI I (lay.map (·.1)) [] [.sh S, s1, .lk (.dt lay), .ow (.dt []), s4, s5, s6] rfl
    ⟨[], s4, s5, s6, rfl, .nil, (fun q hq => by cases hq), fun q => by simp⟩ fun dn L rr ρ er ⟨kv, t4, t5, t6, e, hk, hlo, hm⟩ => by
      subst e
      have hL : L ∈ lay.map (·.1) := by
        rw [show lay.map (·.1) = dn ++ L :: rr from er]; simp
      obtain ⟨a, ha, rfl⟩ := (hd L).mp hL
      obtain ⟨kv', u5, u6, e, g1, g2, g3⟩ := e_inB ok (n := n) (k := k) (s1 := s1) (s5 := t5) (s6 := t6) ha h1 hk hL hlo
      refine ⟨_, _, rfl, e, kv', _, u5, u6, rfl, g1, g2, fun q => ?_⟩
      rw [g3, hm]
      constructor
      · rintro (⟨b, i, h1, h2, h3, h4, h5, h6⟩ | ⟨i, h3, h4, h5, h6⟩)
        · exact ⟨b, i, List.mem_append.mpr (.inl h1), h2, h3, h4, h5, h6⟩
        · exact ⟨a, i, List.mem_append.mpr (.inr (List.mem_singleton.mpr rfl)), ha, h3, h4, h5, h6⟩
      · rintro ⟨b, i, h1, h2, h3, h4, h5, h6⟩
        rcases List.mem_append.mp h1 with h1 | h1
        · exact .inl ⟨b, i, h1, h2, h3, h4, h5, h6⟩
        · have e : b = a := lotOf_inj h2.lt ha.lt (List.mem_singleton.mp h1)
          subst e
          exact .inr ⟨i, h3, h4, h5, h6⟩
  subst er
  refine ⟨kv, t4, t5, t6, ?_, hk, hlo, fun q => ?_⟩
  · have hi : (xIt (xVar 2)) [.sh S, s1, .ow (.dt lay), .ow (.dt []), s4, s5, s6] = some (.ok ⟨(lay.map (·.1)).map dTI, some 2, true⟩ [.sh S, s1, .lk (.dt lay), .ow (.dt []), s4, s5, s6]) := by
      rw [← lot_of (m := 0)]; rfl
    exact for_eq hi hf
  · rw [hm]
    constructor
    · rintro ⟨a, i, h1, h2, h3, h4, h5, h6⟩
      exact ⟨_, h2.step h3 h4 h5, h6⟩
    · rintro ⟨b, hb, h⟩
      cases hb with
      | @step _ a i h2 h3 h4 h5 => exact ⟨a, i, (hd _).mpr ⟨a, h2, rfl⟩, h2, h3, h4, h5, h⟩
abbrev whB : Ev Fl := sSeq (sSet 3 (xDt)) (sSeq outB (sSeq (sDo (xMutB isDict mUpd (xVar 1) (yCons (xVar 3) (yNil)))) (sSet 2 (xVar 3))))
theorem e_whB {fs : List (List Int)} (ok : Ok0 fs) {n k : Int} {s3 s4 s5 s6 : Slot} {fo lay : List (List Int × V)} {d : Nat} (h1 : KD lay) (hd : ∀ q, q ∈ lay.map (·.1) ↔ ∃ a, ReachD fs d a ∧ q = lotOf fs.length a)
    (h2 : KD fo) (hne : fo ≠ []) (hl : Lots fs.length (fo.map (·.1))) :
    ∃ (lay' : List (List Int × V)) (s4' s5' s6' : Slot), whB [.sh (stk n k fs), .ow (.dt fo), .ow (.dt lay), s3, s4, s5, s6] = some (.ok .nx [.sh (stk n k fs), .ow (.dt (mergeT fo lay')), .ow (.dt lay'), .no, s4', s5', s6']) ∧ KD lay' ∧ Lots fs.length (lay'.map (·.1)) ∧
      ∀ q, q ∈ lay'.map (·.1) ↔ ∃ a, ReachD fs (d + 1) a ∧ q = lotOf fs.length a := by
  obtain ⟨lay', s4', s5', s6', e, g1, g2, g3⟩ := e_outB ok (n := n) (k := k) (s1 := .ow (.dt fo)) (s4 := s4) (s5 := s5) (s6 := s6) h1 hd
  refine ⟨lay', s4', s5', s6', ?_, g1, g2, g3⟩
  unfold whB
  rw [q_seq]
  have e0 : sSet 3 (xDt) [.sh (stk n k fs), .ow (.dt fo), .ow (.dt lay), s3, s4, s5, s6] = some (.ok .nx [.sh (stk n k fs), .ow (.dt fo), .ow (.dt lay), .ow (.dt []), s4, s5, s6]) := rfl
  rw [e0, q_bnd]
  dsimp only
  rw [q_seq, e, q_bnd]
  dsimp only
  have hz : fo.length + lay'.length ≤ sizeLine := by
    have := kd_few h2 hl
    have := kd_few g1 g2
    have := ok.z
    have := sz9
    omega
  have e2 : xMutB isDict mUpd (xVar 1) (yCons (xVar 3) (yNil)) [.sh (stk n k fs), .ow (.dt fo), .ow (.dt lay), .ow (.dt lay'), s4', s5', s6'] = some (.ok (.sh .non) [.sh (stk n k fs), .ow (.dt (mergeT fo lay')), .ow (.dt lay), .ow (.dt lay'), s4', s5', s6']) := by
    simp [xMutB, ownAt, isDict, nbw, mUpd, hne, hz]
  rw [q_seq, q_do, e2, q_bnd]
  rfl
theorem e_while {fs : List (List Int)} (ok : Ok0 fs) {n k : Int} : ∀ (N : Nat) {d : Nat} {s3 s4 s5 s6 : Slot} {fo lay : List (List Int × V)}, fs.length + 2 ≤ N + d → d ≤ fs.length + 1 → KD lay → (∀ q, q ∈ lay.map (·.1) ↔ ∃ a, ReachD fs d a ∧ q = lotOf fs.length a) →
    KD fo → fo ≠ [] → Lots fs.length (fo.map (·.1)) → (∀ q, q ∈ fo.map (·.1) ↔ ∃ a c, c ≤ d ∧ ReachD fs c a ∧ q = lotOf fs.length a) →
    ∃ (kvs : List (List Int × V)) (s2 s3' s4' s5' s6' : Slot), whileF N (xCmpT gNeE (xVar 2) (xDt)) whB [.sh (stk n k fs), .ow (.dt fo), .ow (.dt lay), s3, s4, s5, s6] = some (.ok .nx [.sh (stk n k fs), .ow (.dt kvs), s2, s3', s4', s5', s6']) ∧ KD kvs ∧
      ∀ q, q ∈ kvs.map (·.1) ↔ ∃ a c, ReachD fs c a ∧ q = lotOf fs.length a
  | N, d, s3, s4, s5, s6, fo, lay, hN, hd1, h1, h2, h3, h4, h5, h6 => by
    cases lay with
    | nil =>
      have hno : ∀ c a, d ≤ c → ¬ ReachD fs c a := fun c a hc => by
        induction c generalizing a with
        | zero =>
          intro h
          have e : d = 0 := by omega
          subst e
          have := (h2 _).mpr ⟨a, h, rfl⟩
          cases this
        | succ c ih =>
          intro h
          by_cases e : d = c + 1
          · subst e
            have := (h2 _).mpr ⟨a, h, rfl⟩
            cases this
          · cases h with
            | step h _ _ _ => exact ih _ (by omega) h
      cases N with
      | zero => omega
      | succ N =>
        refine ⟨fo, .ow (.dt []), s3, s4, s5, s6, rfl, h3, fun q => ?_⟩
        rw [h6]
        constructor
        · rintro ⟨a, c, _, h, e⟩
          exact ⟨a, c, h, e⟩
        · rintro ⟨a, c, h, e⟩
          by_cases hc : d ≤ c
          · exact absurd h (hno c a hc)
          · exact ⟨a, c, by omega, h, e⟩
    | cons p lay =>
      obtain ⟨a, ha, _⟩ := (h2 p.1).mp (by simp)
      have hd : d ≤ fs.length := by rw [← ha.len]; exact lotOf_le _ _
      cases N with
      | zero => omega
      | succ N =>
        obtain ⟨lay', s4', s5', s6', e, g1, g2, g3⟩ := e_whB ok (n := n) (k := k) (s3 := s3) (s4 := s4) (s5 := s5) (s6 := s6) h1 h2 h3 h4 h5
        obtain ⟨kvs, t2, t3, t4, t5, t6, e2, g4, g5⟩ := e_while ok (n := n) (k := k) N (d := d + 1) (s3 := .no) (s4 := s4') (s5 := s5') (s6 := s6') (fo := mergeT fo lay') (lay := lay') (by omega) (by omega) g1 g3 (h3.merge g1.vi) (fun z => by
            have : (fo.head h4).1 ∈ (mergeT fo lay').map (·.1) := mergeT_mem.mpr (.inl (List.mem_map.mpr ⟨_, List.head_mem h4, rfl⟩))
            rw [z] at this; cases this) (fun q hq => by
            rcases mergeT_mem.mp hq with z | z
            · exact h5 q z
            · exact g2 q z) (fun q => by
            rw [mergeT_mem, h6, g3]
            constructor
            · rintro (⟨a, c, h, e⟩ | ⟨a, h, e⟩)
              · exact ⟨a, c, by omega, e⟩
              · exact ⟨a, d + 1, by omega, h, e⟩
            · rintro ⟨a, c, h, h', e⟩
              by_cases hc : c = d + 1
              · subst hc
                exact .inr ⟨a, h', e⟩
              · exact .inl ⟨a, c, by omega, h', e⟩)
        refine ⟨kvs, t2, t3, t4, t5, t6, ?_, g4, g5⟩
        rw [whileF]
        have ec : xCmpT gNeE (xVar 2) (xDt) [.sh (stk n k fs), .ow (.dt fo), .ow (.dt (p :: lay)), s3, s4, s5, s6] = some (.ok true [.sh (stk n k fs), .ow (.dt fo), .ow (.dt (p :: lay)), s3, s4, s5, s6]) := rfl
        rw [ec, q_bnd, if_pos rfl, e, q_bnd]
        exact e2
/-- a lot that can be laid -/
def Reach (fs : List (List Int)) (a : Nat) : Prop := ∃ c, ReachD fs c a
theorem e_laid_of {fs : List (List Int)} (ok : Ok0 fs) (n k : Int) : ∃ kvs : List (List Int × V), φ_laid_of [stk n k fs] = some (.ok (.ow (.dt kvs)) .non) ∧ KD kvs ∧ ∀ q, q ∈ kvs.map (·.1) ↔ ∃ a, Reach fs a ∧ q = lotOf fs.length a := by
  have z0 : ∀ q : List Int, q ∈ [(([] : List Int), V.int 1)].map (·.1) ↔ ∃ a, ReachD fs 0 a ∧ q = lotOf fs.length a := fun q => by
    rw [List.map_cons, List.map_nil, List.mem_singleton]
    constructor
    · intro h
      exact ⟨0, .zero, by rw [lotOf_zero]; exact h⟩
    · rintro ⟨a, h, e⟩
      cases h
      rw [e, lotOf_zero]
  obtain ⟨kvs, s2, s3, s4, s5, s6, e, g1, g2⟩ := e_while ok (n := n) (k := k) 1000 (d := 0) (s3 := .no) (s4 := .no) (s5 := .no) (s6 := .no) (fo := [([], .int 1)]) (lay := [([], .int 1)]) (by have := ok.n; omega) (by omega) (.one _ _) z0 (.one _ _) (by simp) (fun q hq => by
      obtain ⟨a, h, e⟩ := (z0 q).mp hq
      exact ⟨a, h.lt, e⟩) (fun q => by
      rw [z0]
      constructor
      · rintro ⟨a, h, e⟩
        exact ⟨a, 0, by omega, h, e⟩
      · rintro ⟨a, c, h, h', e⟩
        have : c = 0 := by omega
        subst this
        exact ⟨a, h', e⟩)
  refine ⟨kvs, ?_, g1, fun q => ?_⟩
  · refine run_ow rfl [.sh (stk n k fs), .no, s2, s3, s4, s5, s6] ?_
    show fB_laid_of [.sh (stk n k fs), .no, .no, .no, .no, .no, .no] = _
    unfold fB_laid_of
    have e1 : sSet 1 (xDisp1 true (xTup (xNil)) (xC (.int 1))) [.sh (stk n k fs), .no, .no, .no, .no, .no, .no] = some (.ok .nx [.sh (stk n k fs), .ow (.dt [([], .int 1)]), .no, .no, .no, .no, .no]) := rfl
    have e2 : sSet 2 (xDisp1 true (xTup (xNil)) (xC (.int 1))) [.sh (stk n k fs), .ow (.dt [([], .int 1)]), .no, .no, .no, .no, .no] = some (.ok .nx [.sh (stk n k fs), .ow (.dt [([], .int 1)]), .ow (.dt [([], .int 1)]), .no, .no, .no, .no]) := rfl
    rw [q_seq, e1, q_bnd]
    dsimp only
    rw [q_seq, e2, q_bnd]
    dsimp only
    rw [q_seq]
    unfold sWhile
    rw [show (sSeq (sSet 3 (xDt)) (sSeq (sFor (xIt (xVar 2)) (gN 4) (sFor (xIt (xCall φ_steps_on (yCons (xVar 0) (yCons (xVar 4) (yNil))))) (gN 5) (sSeq (sSet 6 (xCall φ_put_to (yCons (xVar 4) (yCons (xVar 5) (yNil))))) (sDput (xVar 3) (xVar 6) (xBin gAdd (xGet2 (xVar 3) (xVar 6) (xC (.int 0))) (xBin gDget (xVar 2) (xVar 4))))))) (sSeq (sDo (xMutB isDict mUpd (xVar 1) (yCons (xVar 3) (yNil)))) (sSet 2 (xVar 3))))) = whB from rfl, e, q_bnd]
    rfl
  · rw [g2]
    exact ⟨fun ⟨a, c, h, e⟩ => ⟨a, ⟨c, h⟩, e⟩, fun ⟨a, ⟨c, h⟩, e⟩ => ⟨a, c, h, e⟩⟩
end K21

set_option Elab.async false
set_option linter.all false
set_option maxRecDepth 100000
set_option maxHeartbeats 1000000
/-! k21: stacks; laid_lots, stuck_lots, most_laid. -/
namespace K21
open PySem PySem.Spec L2 Lf
theorem cut1 (ds : List D) : cutD ds (some 1) none = ds.drop 1 := by
  unfold cutD
  rw [show (some (1 : Int)) = some ((1 : Nat) : Int) from rfl, HT.sIx_nat, HT.sIx_none]
  rw [List.take_of_length_le (by rw [List.length_drop]; omega)]
  cases ds with
  | nil => rfl
  | cons d ds => rw [List.length_cons, Nat.min_eq_left (by omega)]
theorem zipD_map {α : Type} (inj : α → D) : ∀ (xs ys : List α), zipD (xs.map inj) (ys.map inj) = (xs.zip ys).map fun p => .tup [inj p.1, inj p.2]
  | [], _ => by simp [zipD]
  | _ :: _, [] => by simp [zipD]
  | x :: xs, y :: ys => by simp [zipD, zipD_map inj xs ys]
theorem zip_pw {α : Type} {r : α → α → Prop} : ∀ {xs : List α}, xs.Pairwise r → ∀ p ∈ xs.zip (xs.drop 1), r p.1 p.2
  | [], _, p, h => by simp at h
  | [x], _, p, h => by simp at h
  | x :: y :: xs, hp, p, h => by
    obtain ⟨h1, h2⟩ := List.pairwise_cons.mp hp
    rw [List.drop_succ_cons, List.drop_zero, List.zip_cons_cons, List.mem_cons] at h
    rcases h with h | h
    · rw [h]; exact h1 y List.mem_cons_self
    · exact zip_pw h2 p h
theorem gAll_t {α : Type} (xs : List α) : gAll [.lst (xs.map fun _ => D.bl true)] = some (.sh (.bl true)) := by
  rw [gAll_map (fun _ => true) xs]
  simp
theorem e_rising {n : Int} {xs : List Int} (h1 : xs.Pairwise (· < ·)) (h2 : ∀ p ∈ xs, 0 ≤ p ∧ p ≤ n - 1) : φ_are_rising [.int n, dTI xs] = bl true := by
  have c1 := lc_all (fi := xIt (xVar 1)) (g := gN 2) (fe := xCall φ_is_from (yCons (xVar 2) (yCons (xLn (xC (.int 0))) (yCons (xLn (xBin gSub (xVar 0) (xC (.int 1)))) (yNil))))) (vs := [2]) (ρ := [.sh (.int n), .sh (dTI xs), .no, .no]) (u := none) (dc := false) (ρ1 := [.sh (.int n), .sh (dTI xs), .no, .no])
    D.int xs (fun p => .bl true) (fun p => [.sh (.int n), .sh (dTI xs), .sh (.int p), .no]) rfl rfl (fun _ _ => rfl) (fun p hp => by
      have := h2 p hp
      simp [e_is_from, Lf.gSub, g2I, bl, this.1, this.2]) (fun _ _ => ⟨rfl, rfl⟩)
  have c2 := lc_all (fi := xZip (yCons (xVar 1) (yCons (xSl (xVar 1) (oAt (xC (.int 1))) (oNo)) (yNil)))) (g := gT [2, 3]) (fe := xBin gLt (xVar 2) (xVar 3)) (vs := [2, 3]) (ρ := [.sh (.int n), .sh (dTI xs), .no, .no]) (u := none) (dc := false) (ρ1 := [.sh (.int n), .sh (dTI xs), .no, .no])
    (fun p : Int × Int => .tup [.int p.1, .int p.2]) (xs.zip (xs.drop 1)) (fun p => .bl true) (fun p => [.sh (.int n), .sh (dTI xs), .sh (.int p.1), .sh (.int p.2)])
    (by
      rw [← zipD_map, List.map_drop, ← cut1]; rfl) rfl (fun _ _ => rfl) (fun p hp => by
      have := zip_pw h1 p hp
      simp [gLt, this]) (fun _ _ => ⟨rfl, rfl⟩)
  refine run_sh rfl [.sh (.int n), .sh (dTI xs), .no, .no] ?_
  show fB_are_rising [.sh (.int n), .sh (dTI xs), .no, .no] = _
  have a1 := gAll_t xs
  have a2 := gAll_t (xs.zip (xs.drop 1))
  simp only [fB_are_rising, q_seq, q_if, q_or, q_not, q_tr, q_isi, q_var, List.getElem?_cons_succ, List.getElem?_cons_zero, q_bnd, q_rd_sh, Option.bind_some, ty_6, kb_13, Option.map_some, q_tru_b, Bool.not_true, Bool.false_eq_true, if_false, q_pure, q_yC, q_yN, c1, q_unl0, q_rdA, q_rd_ow, q_rdA0, a1, q_skip, q_ret, q_xTk, q_tk_sh]
  rw [c2]
  simp only [q_bnd, q_unl0, q_rdA, q_rd_ow, q_rdA0, Option.bind_some, Option.map_some, a2, q_tk_sh]
/-- a stack -/
structure GS0 (n k : Int) (fs : List (List Int)) : Prop where
  n1 : 1 ≤ n
  n8 : n ≤ 8
  k0 : 0 ≤ k
  k1 : k ≤ n
  k4 : k ≤ 4
  l1 : 1 ≤ fs.length
  l70 : fs.length ≤ 70
  up : ∀ f ∈ fs, f.Pairwise (· < ·)
  rg : ∀ f ∈ fs, ∀ p ∈ f, 0 ≤ p ∧ p ≤ n - 1
  ln : ∀ f ∈ fs, (f.length : Int) = k
  so : fs.Pairwise fun a b => HT.lexLt a b = true
/-- .. of few faces -/
structure GS (n k : Int) (fs : List (List Int)) : Prop extends GS0 n k fs where
  l9 : fs.length ≤ 9
theorem gLt_tI (a b : List Int) : gLt (dTI a) (dTI b) = some (.sh (.bl (HT.lexLt a b))) := by
  show (asIs (a.map D.int)).bind (fun x => (asIs (b.map D.int)).map fun y => Val.sh (.bl (HT.lexLt x y))) = _
  rw [asIs_int, asIs_int]; rfl
theorem gLen_tI (a : List Int) : gLen [dTI a] = some (.sh (.int a.length)) := by
  show some (Val.sh (.int ((a.map D.int).length : Nat))) = _
  rw [List.length_map]
theorem e_are_faces {n k : Int} {fs : List (List Int)} (g : GS0 n k fs) : φ_are_faces [.int n, .int k, .tup (fs.map dTI)] = bl true := by
  have c1 := lc_all (fi := xIt (xVar 2)) (g := gN 3) (fe := xAndV (xCall φ_are_rising (yCons (xVar 0) (yCons (xVar 3) (yNil)))) (xBin gEq (xPure gLen (yCons (xVar 3) (yNil))) (xVar 1))) (vs := [3]) (ρ := [.sh (.int n), .sh (.int k), .sh (.tup (fs.map dTI)), .no, .no, .no]) (u := none) (dc := false) (ρ1 := [.sh (.int n), .sh (.int k), .sh (.tup (fs.map dTI)), .no, .no, .no])
    dTI fs (fun p => .bl true) (fun f => [.sh (.int n), .sh (.int k), .sh (.tup (fs.map dTI)), .sh (dTI f), .no, .no]) rfl rfl (fun _ _ => rfl) (fun f hf => by
      simp [e_rising (g.up f hf) (g.rg f hf), bl, gLen_tI, gEq_int, g.ln f hf]) (fun _ _ => ⟨rfl, rfl⟩)
  have c2 := lc_all (fi := xZip (yCons (xVar 2) (yCons (xSl (xVar 2) (oAt (xC (.int 1))) (oNo)) (yNil)))) (g := gT [4, 5]) (fe := xBin gLt (xVar 4) (xVar 5)) (vs := [4, 5]) (ρ := [.sh (.int n), .sh (.int k), .sh (.tup (fs.map dTI)), .no, .no, .no]) (u := none) (dc := false) (ρ1 := [.sh (.int n), .sh (.int k), .sh (.tup (fs.map dTI)), .no, .no, .no])
    (fun p : List Int × List Int => .tup [dTI p.1, dTI p.2]) (fs.zip (fs.drop 1)) (fun p => .bl true) (fun p => [.sh (.int n), .sh (.int k), .sh (.tup (fs.map dTI)), .no, .sh (dTI p.1), .sh (dTI p.2)])
    (by
      rw [← zipD_map, List.map_drop, ← cut1]; rfl) rfl (fun _ _ => rfl) (fun p hp => by
      have := zip_pw g.so p hp
      simp [gLt_tI, this]) (fun _ _ => ⟨rfl, rfl⟩)
  refine run_sh rfl [.sh (.int n), .sh (.int k), .sh (.tup (fs.map dTI)), .no, .no, .no] ?_
  show fB_are_faces [.sh (.int n), .sh (.int k), .sh (.tup (fs.map dTI)), .no, .no, .no] = _
  have a1 := gAll_t fs
  have a2 := gAll_t (fs.zip (fs.drop 1))
  have l : gLen [.tup (fs.map dTI)] = some (.sh (.int fs.length)) := by
    show some (Val.sh (.int ((fs.map dTI).length : Nat))) = _
    rw [List.length_map]
  have b1 : decide ((1 : Int) ≤ fs.length) = true := decide_eq_true (by have := g.l1; omega)
  have b2 : decide ((fs.length : Int) ≤ 70) = true := decide_eq_true (by have := g.l70; omega)
  simp only [fB_are_faces, q_seq, q_if, q_or, q_not, q_tr, q_isi, q_var, List.getElem?_cons_succ, List.getElem?_cons_zero, q_bnd, q_rd_sh, Option.bind_some, ty_3, kb_13, Option.map_some, q_tru_b, Bool.not_true, Bool.false_eq_true, if_false, q_xB, q_chain, q_c, q_pure, q_yC, q_yN, q_rdA, q_rdA0, l, gLe, g2I, b1, b2, q_fin2, q_asBl, c1, q_unl0, q_rd_ow, a1, q_skip, q_ret, q_xTk, q_tk_sh, if_true]
  rw [c2]
  simp only [q_bnd, q_unl0, q_rdA, q_rd_ow, q_rdA0, Option.bind_some, Option.map_some, a2, q_tk_sh]
theorem gMin2 (i j : Int) : gMin [.int i, .int j] = some (.sh (.int (if j < i then j else i))) := rfl
theorem e_is_stack {n k : Int} {fs : List (List Int)} (g : GS0 n k fs) : φ_is_stack [stk n k fs] = bl true := by
  refine run_sh rfl [.sh (stk n k fs), .sh (.int n), .sh (.int k), .sh (.tup (fs.map dTI))] ?_
  show fB_is_stack [.sh (stk n k fs), .no, .no, .no] = _
  have l : gLen [stk n k fs] = some (.sh (.int 3)) := rfl
  have u : sUnp [1, 2, 3] (xVar 0) [.sh (stk n k fs), .no, .no, .no] = some (.ok .nx [.sh (stk n k fs), .sh (.int n), .sh (.int k), .sh (.tup (fs.map dTI))]) := rfl
  have ty : tyD (stk n k fs) = some "tuple" := rfl
  have b1 : decide (1 ≤ n) = true := decide_eq_true g.n1
  have b2 : decide (n ≤ 8) = true := decide_eq_true g.n8
  have b3 : decide (0 ≤ k) = true := decide_eq_true g.k0
  have b4 : decide (k ≤ (if (4 : Int) < n then 4 else n)) = true := decide_eq_true (by
    have := g.k1
    have := g.k4
    split <;> omega)
  simp only [fB_is_stack, q_seq, q_if, q_or, q_not, q_tr, q_isi, q_var, List.getElem?_cons_succ, List.getElem?_cons_zero, q_bnd, q_rd_sh, Option.bind_some, ty, kb_13, Option.map_some, q_tru_b, Bool.not_true, Bool.false_eq_true, if_false, q_cmpT, q_pure, q_yC, q_yN, q_rdA, q_rdA0, l, q_c, gNe_int, q_asBl, q_skip, u,
    q_call, q_ln, q_ar1, q_ar0, e_is_from, bl, b1, b2, List.any_cons, List.any_nil, q_bw0, Bool.or_false, q_ok0, if_true, Bool.and_self, gMin2, b3, b4, q_ret, q_xTk, e_are_faces g, q_tk_sh, beq_self_eq_true]
theorem e_must_stack {n k : Int} {fs : List (List Int)} (g : GS0 n k fs) : φ_must_stack [stk n k fs] = some (.ok (.sh .non) .non) := by
  refine runF_nx (ρ' := [.sh (stk n k fs)]) rfl ?_
  show fB_must_stack [.sh (stk n k fs)] = _
  simp [fB_must_stack, e_is_stack g, bl]
theorem e_must_few {n k : Int} {fs : List (List Int)} (g : GS n k fs) : φ_must_few [stk n k fs] = some (.ok (.sh .non) .non) := by
  refine runF_nx (ρ' := [.sh (stk n k fs)]) rfl ?_
  show fB_must_few [.sh (stk n k fs)] = _
  have l : gLen [.tup (fs.map dTI)] = some (.sh (.int fs.length)) := by
    show some (Val.sh (.int ((fs.map dTI).length : Nat))) = _
    rw [List.length_map]
  have : ¬ (9 : Int) < fs.length := by have := g.l9; omega
  simp [fB_must_few, gIx2, l, gGt, g2I, this]
theorem e_must {n k : Int} {fs : List (List Int)} (g : GS n k fs) : φ_must_searched [stk n k fs] = some (.ok (.sh .non) .non) := by
  refine runF_nx (ρ' := [.sh (stk n k fs)]) rfl ?_
  show fB_must_searched [.sh (stk n k fs)] = _
  simp [fB_must_searched, e_must_stack g.toGS0, e_must_few g]
theorem GS.ok0 {n k : Int} {fs : List (List Int)} (g : GS n k fs) : Ok0 fs := ⟨g.l9, fun f hf => by
  have := g.ln f hf
  have := g.k4
  have := sz9
  omega⟩
end K21

set_option Elab.async false
set_option linter.all false
set_option maxRecDepth 100000
set_option maxHeartbeats 1000000
/-! k21: laid_lots, stuck_lots, most_laid. -/
namespace K21
open PySem PySem.Spec L2 Lf
/-- the lots that can be laid, in some order -/
structure IsLots (fs : List (List Int)) (ks : List (List Int)) : Prop where
  nd : ks.Nodup
  mem : ∀ q, q ∈ ks ↔ ∃ a, Reach fs a ∧ q = lotOf fs.length a
theorem IsLots.perm {fs ks ls : List (List Int)} (h1 : IsLots fs ks) (h2 : IsLots fs ls) : ks.Perm ls :=
  (List.perm_ext_iff_of_nodup h1.nd h2.nd).mpr fun q => by rw [h1.mem, h2.mem]
theorem e_laid {fs : List (List Int)} (ok : Ok0 fs) (n k : Int) : ∃ kvs : List (List Int × V), φ_laid_of [stk n k fs] = some (.ok (.ow (.dt kvs)) .non) ∧ IsLots fs (kvs.map (·.1)) := by
  obtain ⟨kvs, e, h1, h2⟩ := e_laid_of ok n k
  exact ⟨kvs, e, h1.nd, h2⟩
theorem IsLots.sort {fs ks : List (List Int)} (h : IsLots fs ks) : IsLots fs (sortT ks) := ⟨(List.mergeSort_perm ks _).nodup_iff.mpr h.nd, fun q => by
  rw [← h.mem]
  exact (List.mergeSort_perm ks _).mem_iff⟩
theorem e_laid_lots {n k : Int} {fs ks : List (List Int)} (g : GS n k fs) (h : IsLots fs ks) : φ_laid_lots [stk n k fs] = some (.ok (.ow (.lst ((sortT ks).map dTI))) .non) := by
  obtain ⟨kvs, e, h1⟩ := e_laid g.ok0 n k
  refine run_ow rfl [.sh (stk n k fs)] ?_
  show fB_laid_lots [.sh (stk n k fs)] = _
  have gs : gSort [.dt kvs] = some (.ow (.lst ((sortT ks).map dTI))) := by
    show some (Val.ow (.lst ((sortT (kvs.map (·.1))).map dTI))) = _
    rw [sortT_perm (h1.perm h)]
  simp [fB_laid_lots, e_must g, e, gs]
/-- nothing more can be laid -/
def stuckB (fs : List (List Int)) (L : List Int) : Bool := decide (L.length < fs.length) && decide (stepsL fs L = [])
theorem sortT_filter (c : List Int → Bool) (ks : List (List Int)) : (sortT ks).filter c = sortT (ks.filter c) := by
  refine sortT_eq ((List.mergeSort_perm ks _).filter c) ?_
  have := List.pairwise_mergeSort (le := leT) (fun a b c h1 h2 => by
    unfold leT at *
    have h1 : HT.lexLt b a = false := by simpa using h1
    have h2 : HT.lexLt c b = false := by simpa using h2
    simpa using lexLe_tr a b c h1 h2) (fun a b => by
    unfold leT
    cases h : HT.lexLt b a with
    | false => rfl
    | true => rw [lexLt_asym b a h]; rfl) ks
  exact (this.imp fun h => by unfold leT at h; simpa using h).sublist List.filter_sublist
theorem IsLots.lot {fs ks : List (List Int)} (h : IsLots fs ks) {L : List Int} (hL : L ∈ ks) : ∀ i ∈ L, okIx fs i := fun i hi => by
  obtain ⟨a, _, e⟩ := (h.mem L).mp hL
  rw [e] at hi
  have := (lotOf_mem.mp hi).1
  exact ⟨this.1, this.2⟩
theorem gEq_nil (ds : List Int) : gEq (.lst (ds.map .int)) (.lst []) = some (.sh (.bl (decide (ds = [])))) := by
  unfold gEq eqD
  have e1 : toP (.lst (ds.map .int)) = some (.list (ds.map .int)) := by
    unfold toP
    rw [toPs_int]; rfl
  have e2 : toP (.lst []) = some (.list []) := by
    unfold toP toPs
    rfl
  rw [e1, e2]
  show (if SeqAt.shaped (.list (ds.map .int)) = true ∧ SeqAt.shaped (.list []) = true then some (PyData.eqv (.list (ds.map .int)) (.list [])) else none).map (fun k => Val.sh (.bl k)) = _
  rw [if_pos ⟨shapedL_int ds, shapedL_int []⟩, PyData.eqv]
  rw [show ([] : List PyData) = ([] : List Int).map .int from rfl, eqvAll_int]
  rfl
theorem e_stuck {n k : Int} {fs ks : List (List Int)} (g : GS n k fs) (h : IsLots fs ks) : φ_stuck_lots [stk n k fs] = some (.ok (.ow (.lst (((sortT ks).filter (stuckB fs)).map dTI))) .non) := by
  obtain ⟨kvs, e, h1⟩ := e_laid g.ok0 n k
  let S := stk n k fs
  let ls := kvs.map (·.1)
  have l3 : gLen [.tup (fs.map dTI)] = some (.sh (.int fs.length)) := by
    show some (Val.sh (.int ((fs.map dTI).length : Nat))) = _
    rw [List.length_map]
  have hi : (xIt (xCall φ_laid_of (yCons (xVar 0) (yNil)))) [.sh S, .no, .no] = some (.ok ⟨ls.map dTI, none, true⟩ [.sh S, .no, .no]) := by
    rw [← lot_of (m := 0)]
    simp [S, e, itemsOf]
  have c1 := lc_map (fi := xIt (xCall φ_laid_of (yCons (xVar 0) (yNil)))) (g := gN 2) (ct := xCmpT gLt (xPure gLen (yCons (xVar 2) (yNil))) (xPure gLen (yCons (xBin gIx (xVar 0) (xC (.int 2))) (yNil)))) (fe := xVar 2) (vs := [2]) (ρ := [.sh S, .no, .no]) (u := none) (dc := true) (ρ1 := [.sh S, .no, .no])
    dTI ls (fun L => decide (L.length < fs.length)) dTI (fun L => [.sh S, .no, .sh (dTI L)]) hi rfl (fun _ _ => rfl) (fun L _ => by simp [S, gLen_tI, gIx2, l3, gLt]) (fun L _ _ => by simp) (fun _ _ => ⟨rfl, rfl⟩)
  let ls1 := ls.filter fun L => decide (L.length < fs.length)
  have c2 := lc_map (fi := xIt (xVar 1)) (g := gN 2) (ct := xCmpT gEq (xCall φ_steps_on (yCons (xVar 0) (yCons (xVar 2) (yNil)))) (xLst (xNil))) (fe := xVar 2) (vs := [2]) (ρ := [.sh S, .ow (.lst (ls1.map dTI)), .no]) (u := some 1) (dc := false) (ρ1 := [.sh S, .lk (.lst (ls1.map dTI)), .no])
    dTI ls1 (fun L => decide (stepsL fs L = [])) dTI (fun L => [.sh S, .lk (.lst (ls1.map dTI)), .sh (dTI L)]) rfl rfl (fun _ _ => rfl)
    (fun L hL => by
      have hL : L ∈ ls := (List.mem_filter.mp hL).1
      simp [-List.map_map, S, e_steps n k fs L (h1.lot hL) (by have := g.l9; omega) g.ok0.f, gEq_nil]) (fun L _ _ => by simp) (fun _ _ => ⟨rfl, rfl⟩)
  have e2 : ls1.filter (fun L => decide (stepsL fs L = [])) = ls.filter (stuckB fs) := by
    show (ls.filter _).filter _ = _
    rw [List.filter_filter]
    refine List.filter_congr fun L _ => ?_
    unfold stuckB
    rw [Bool.and_comm]
  have gs : gSort [.lst ((ls1.filter (fun L => decide (stepsL fs L = []))).map dTI)] = some (.ow (.lst (((sortT ks).filter (stuckB fs)).map dTI))) := by
    rw [e2]
    show (sortL _).map (fun es => Val.ow (.lst es)) = _
    rw [sortL_tI, Option.map_some, sortT_filter, sortT_perm ((h1.perm h).filter _)]
  refine run_ow rfl [.sh S, .ow (.lst (ls1.map dTI)), .no] ?_
  show fB_stuck_lots [.sh S, .no, .no] = _
  unfold fB_stuck_lots
  have s1 : sDo (xCall φ_must_searched (yCons (xVar 0) (yNil))) [.sh S, .no, .no] = some (.ok .nx [.sh S, .no, .no]) := by simp [S, e_must g]
  have s2 : sSet 1 (xLc (xIt (xCall φ_laid_of (yCons (xVar 0) (yNil)))) (gN 2) (xCmpT gLt (xPure gLen (yCons (xVar 2) (yNil))) (xPure gLen (yCons (xBin gIx (xVar 0) (xC (.int 2))) (yNil)))) (xVar 2) [2]) [.sh S, .no, .no] = some (.ok .nx [.sh S, .ow (.lst (ls1.map dTI)), .no]) := by
    rw [q_set, q_xTk, c1]; rfl
  rw [q_seq, s1, q_bnd]
  dsimp only
  rw [q_seq, s2, q_bnd]
  dsimp only
  simp only [q_ret, q_xTk, q_pure, q_yC, q_yN]
  rw [c2]
  simp only [q_bnd, q_rdA, q_rd_ow, q_rdA0, Option.bind_some, Option.map_some, gs, q_tk_ow]
  rfl
/-- the greatest length -/
def mostI (ks : List (List Int)) : Option Int := maxI (ks.map fun L => (L.length : Int))
theorem maxI_perm {a b : List Int} (p : a.Perm b) : maxI a = maxI b := by
  cases a with
  | nil => rw [List.nil_perm.mp p]
  | cons x xs =>
    cases b with
    | nil => exact absurd (List.perm_nil.mp p) (by simp)
    | cons y ys =>
      obtain ⟨h1, h2, h3⟩ := maxF xs x
      obtain ⟨g1, g2, g3⟩ := maxF ys y
      have m1 : xs.foldl (fun a b => if b > a then b else a) x ∈ x :: xs := by
        rcases h1 with h | h
        · rw [h]; exact List.mem_cons_self
        · exact List.mem_cons_of_mem _ h
      have m2 : ys.foldl (fun a b => if b > a then b else a) y ∈ y :: ys := by
        rcases g1 with h | h
        · rw [h]; exact List.mem_cons_self
        · exact List.mem_cons_of_mem _ h
      have l1 : ∀ z ∈ x :: xs, z ≤ xs.foldl (fun a b => if b > a then b else a) x := fun z hz => by
        rcases List.mem_cons.mp hz with e | e
        · rw [e]; exact h2
        · exact h3 z e
      have l2 : ∀ z ∈ y :: ys, z ≤ ys.foldl (fun a b => if b > a then b else a) y := fun z hz => by
        rcases List.mem_cons.mp hz with e | e
        · rw [e]; exact g2
        · exact g3 z e
      show some (xs.foldl (fun a b => if b > a then b else a) x) = some (ys.foldl (fun a b => if b > a then b else a) y)
      rw [Int.le_antisymm (l2 _ (p.mem_iff.mp m1)) (l1 _ (p.mem_iff.mpr m2))]
theorem e_most {n k : Int} {fs ks : List (List Int)} (g : GS n k fs) (h : IsLots fs ks) : ∃ m, mostI ks = some m ∧ φ_most_laid [stk n k fs] = some (.ok (.sh (.int m)) .non) := by
  obtain ⟨kvs, e, h1⟩ := e_laid g.ok0 n k
  let S := stk n k fs
  let ls := kvs.map (·.1)
  have hi : (xIt (xCall φ_laid_of (yCons (xVar 0) (yNil)))) [.sh S, .no] = some (.ok ⟨ls.map dTI, none, true⟩ [.sh S, .no]) := by
    rw [← lot_of (m := 0)]
    simp [S, e, itemsOf]
  have c1 := lc_all (fi := xIt (xCall φ_laid_of (yCons (xVar 0) (yNil)))) (g := gN 1) (fe := xPure gLen (yCons (xVar 1) (yNil))) (vs := [1]) (ρ := [.sh S, .no]) (u := none) (dc := true) (ρ1 := [.sh S, .no])
    dTI ls (fun L => .int (L.length : Int)) (fun L => [.sh S, .sh (dTI L)]) hi rfl (fun _ _ => rfl) (fun L _ => by simp [gLen_tI]) (fun _ _ => ⟨rfl, rfl⟩)
  have e0 : mostI ks = mostI ls := maxI_perm ((h.perm h1).map _)
  have hm : [] ∈ ls := (h1.mem []).mpr ⟨0, ⟨0, .zero⟩, (lotOf_zero _).symm⟩
  obtain ⟨m, em⟩ : ∃ m, mostI ls = some m := by
    cases q : ls with
    | nil => rw [q] at hm; cases hm
    | cons z zs => exact ⟨_, rfl⟩
  refine ⟨m, by rw [e0, em], ?_⟩
  have gm : gMax [.lst (ls.map fun L => D.int (L.length : Int))] = some (.sh (.int m)) := by
    show (asIs (ls.map fun L => D.int (L.length : Int))).bind (fun ns => (maxI ns).map fun m => Val.sh (.int m)) = _
    rw [show (ls.map fun L => D.int (L.length : Int)) = (ls.map fun L => (L.length : Int)).map D.int from (List.map_map (f := fun L : List Int => (L.length : Int)) (g := D.int) (l := ls)).symm, asIs_int, Option.bind_some]
    rw [show maxI (ls.map fun L => (L.length : Int)) = some m from em]; rfl
  refine run_sh rfl [.sh S, .no] ?_
  show fB_most_laid [.sh S, .no] = _
  unfold fB_most_laid
  have s1 : sDo (xCall φ_must_searched (yCons (xVar 0) (yNil))) [.sh S, .no] = some (.ok .nx [.sh S, .no]) := by simp [S, e_must g]
  rw [q_seq, s1, q_bnd]
  dsimp only
  simp only [q_ret, q_xTk, q_pure, q_yC, q_yN]
  rw [c1]
  simp only [q_bnd, q_unl0, q_rdA, q_rd_ow, q_rdA0, Option.bind_some, Option.map_some, gm, q_tk_sh]
end K21

set_option Elab.async false
set_option linter.all false
set_option maxRecDepth 100000
set_option maxHeartbeats 1000000
/-! k21: the law's own words: within, common, may. -/
namespace K21
open PySem PySem.Spec L2 Lf
theorem for_all {α : Type} {dc : Bool} {g : Tg} {fb : Ev Fl} {r : Val} (inj : α → D) (c : α → Bool) (P : Lf.Env → Prop) (En : α → Lf.Env) : ∀ (xs : List α), (∀ x ∈ xs, ∀ ρ, P ρ → g (inj x) ρ = some (En x)) → (∀ x ∈ xs, P (En x)) →
    (∀ x ∈ xs, fb (En x) = some (.ok (if c x = true then .nx else .rt r) (En x))) → ∀ ρ, P ρ → ∃ ρ', P ρ' ∧ forF dc g fb (xs.map inj) ρ = some (.ok (if xs.all c = true then .nx else .rt r) ρ')
  | [], _, _, _, ρ, h => ⟨ρ, h, rfl⟩
  | x :: xs, h1, h2, h3, ρ, h => by
    have m : x ∈ x :: xs := List.mem_cons_self
    rw [List.map_cons, forF, h1 x m ρ h]
    dsimp only
    rw [h3 x m]
    cases hc : c x with
    | true =>
      rw [if_pos rfl]
      dsimp only
      obtain ⟨ρ', p, e⟩ := for_all (dc := dc) (r := r) inj c P En xs (fun z hz => h1 z (List.mem_cons_of_mem _ hz)) (fun z hz => h2 z (List.mem_cons_of_mem _ hz)) (fun z hz => h3 z (List.mem_cons_of_mem _ hz)) _ (h2 x m)
      refine ⟨ρ', p, ?_⟩
      rw [e, List.all_cons, hc, Bool.true_and]
    | false =>
      refine ⟨En x, h2 x m, ?_⟩
      rw [if_neg (by simp), List.all_cons, hc, Bool.false_and, if_neg (by simp)]
def dLI (ns : List Int) : D := .lst (ns.map .int)
def inB' (a b : List Int) : Bool := decide (a.filter (fun p => !decide (p ∈ b)) = [])
theorem e_lwithin (a b : List Int) : φ__law_within [dLI a, dLI b] = bl (inB' a b) := by
  have h := lc_map (fi := xIt (xVar 0)) (g := gN 2) (ct := xCmpT gNin (xVar 2) (xVar 1)) (fe := xVar 2) (vs := [2]) (ρ := [.sh (dLI a), .sh (dLI b), .no]) (u := none) (dc := false) (ρ1 := [.sh (dLI a), .sh (dLI b), .no])
    D.int a (fun p => !decide (p ∈ b)) D.int (fun p => [.sh (dLI a), .sh (dLI b), .sh (.int p)]) rfl rfl (fun _ _ => rfl) (fun p _ => by simp [dLI, gNin_l]) (fun _ _ _ => by simp) (fun _ _ => ⟨rfl, rfl⟩)
  refine run_sh rfl [.sh (dLI a), .sh (dLI b), .no] ?_
  show fB__law_within [.sh (dLI a), .sh (dLI b), .no] = _
  simp only [fB__law_within, q_ret, q_xTk, q_bin]
  rw [h]
  simp [gEq_nil, inB']
def comL (f o : List Int) : List Int := f.filter fun p => decide (p ∈ o)
theorem e_common (f o : List Int) : φ__law_common [dTI f, dTI o] = some (.ok (.ow (dLI (comL f o))) .non) := by
  have h := lc_map (fi := xIt (xVar 0)) (g := gN 2) (ct := xCmpT gIn (xVar 2) (xVar 1)) (fe := xVar 2) (vs := [2]) (ρ := [.sh (dTI f), .sh (dTI o), .no]) (u := none) (dc := false) (ρ1 := [.sh (dTI f), .sh (dTI o), .no])
    D.int f (fun p => decide (p ∈ o)) D.int (fun p => [.sh (dTI f), .sh (dTI o), .sh (.int p)]) rfl rfl (fun _ _ => rfl) (fun p _ => by simp [gIn_t]) (fun _ _ _ => by simp) (fun _ _ => ⟨rfl, rfl⟩)
  refine run_ow rfl [.sh (dTI f), .sh (dTI o), .no] ?_
  show fB__law_common [.sh (dTI f), .sh (dTI o), .no] = _
  simp only [fB__law_common, q_ret, q_xTk]
  rw [h]
  simp [dLI, comL]
theorem toP_LI (ns : List Int) : toP (dLI ns) = some (.list (ns.map .int)) := by
  unfold dLI toP
  rw [toPs_int]; rfl
theorem toPs_LI : ∀ ks : List (List Int), toPs (ks.map dLI) = some (ks.map fun k => .list (k.map .int))
  | [] => by simp [toPs]
  | k :: ks => by simp [toPs, toP_LI, toPs_LI ks]
theorem lay_LI : ∀ ks : List (List Int), PyData.canLayAll0 (ks.map fun k => .list (k.map .int)) = true
  | [] => by simp [PyData.canLayAll0]
  | x :: a => by simp [PyData.canLayAll0, PyData.canLay0, lay_int, lay_LI a]
theorem dep_LI : ∀ ks : List (List Int), PyData.depthAll (ks.map fun k => .list (k.map .int)) ≤ 1
  | [] => by simp [PyData.depthAll]
  | x :: a => by
    have := dep_LI a
    simp only [List.map_cons, PyData.depthAll, PyData.depth, dep_int]
    omega
theorem shapedL_LI (ks : List (List Int)) : SeqAt.shaped (.list (ks.map fun k => .list (k.map .int))) = true := by
  have := dep_LI ks
  unfold SeqAt.shaped
  rw [PyData.canLay0, lay_LI ks, PyData.depth, Bool.true_and]
  exact decide_eq_true (by omega)
theorem gEq_nilL (ks : List (List Int)) : gEq (.lst (ks.map dLI)) (.lst []) = some (.sh (.bl (decide (ks = [])))) := by
  unfold gEq eqD
  have e1 : toP (.lst (ks.map dLI)) = some (.list (ks.map fun k => .list (k.map .int))) := by
    unfold toP
    rw [toPs_LI]; rfl
  have e2 : toP (.lst []) = some (.list []) := by
    unfold toP toPs
    rfl
  rw [e1, e2]
  show (if SeqAt.shaped (.list (ks.map fun k => .list (k.map .int))) = true ∧ SeqAt.shaped (.list []) = true then some (PyData.eqv (.list (ks.map fun k => .list (k.map .int))) (.list [])) else none).map (fun k => Val.sh (.bl k)) = _
  rw [if_pos ⟨shapedL_LI ks, shapedL_int []⟩, PyData.eqv]
  cases ks <;> simp [PyData.eqvAll]
/-- the law's may -/
def lawMay (k : Int) (here : List (List Int)) (f : List Int) : Bool :=
  ((here.map (comL f)).all fun own => !decide (((here.map (comL f)).filter (fun c => (c.length : Int) == k - 1)).filter (fun b => inB' own b) = [])) && !decide (f ∈ here)
theorem e_lmay (k : Int) (here : List (List Int)) (f : List Int) : φ__law_may [.int k, .lst (here.map dTI), dTI f] = bl (lawMay k here f) := by
  let F : D := .lst (here.map dTI)
  let some' := here.map (comL f)
  let bes := some'.filter fun c => (c.length : Int) == k - 1
  have c1 := lc_all (fi := xIt (xVar 1)) (g := gN 6) (fe := xCall φ__law_common (yCons (xVar 2) (yCons (xVar 6) (yNil)))) (vs := [6]) (ρ := [.sh (.int k), .sh F, .sh (dTI f), .no, .no, .no, .no]) (u := none) (dc := false) (ρ1 := [.sh (.int k), .sh F, .sh (dTI f), .no, .no, .no, .no])
    dTI here (fun o => dLI (comL f o)) (fun o => [.sh (.int k), .sh F, .sh (dTI f), .no, .no, .no, .sh (dTI o)]) rfl rfl (fun _ _ => rfl) (fun o _ => by simp [e_common]) (fun _ _ => ⟨rfl, rfl⟩)
  have e1 : sSet 3 (xLc (xIt (xVar 1)) (gN 6) (xYes) (xCall φ__law_common (yCons (xVar 2) (yCons (xVar 6) (yNil)))) [6]) [.sh (.int k), .sh F, .sh (dTI f), .no, .no, .no, .no] = some (.ok .nx [.sh (.int k), .sh F, .sh (dTI f), .ow (.lst (some'.map dLI)), .no, .no, .no]) := by
    rw [q_set, q_xTk, c1]
    show _ = some (R.ok Fl.nx [.sh (.int k), .sh F, .sh (dTI f), .ow (.lst ((here.map (comL f)).map dLI)), .no, .no, .no])
    rw [List.map_map]; rfl
  have c2 := lc_map (fi := xIt (xVar 3)) (g := gN 6) (ct := xCmpT gEq (xPure gLen (yCons (xVar 6) (yNil))) (xBin Lf.gSub (xVar 0) (xC (.int 1)))) (fe := xVar 6) (vs := [6]) (ρ := [.sh (.int k), .sh F, .sh (dTI f), .ow (.lst (some'.map dLI)), .no, .no, .no]) (u := some 3) (dc := false) (ρ1 := [.sh (.int k), .sh F, .sh (dTI f), .lk (.lst (some'.map dLI)), .no, .no, .no])
    dLI some' (fun c => (c.length : Int) == k - 1) dLI (fun c => [.sh (.int k), .sh F, .sh (dTI f), .lk (.lst (some'.map dLI)), .no, .no, .sh (dLI c)]) rfl rfl (fun _ _ => rfl) (fun c _ => by simp [gLen, dLI, Lf.gSub, g2I, gEq_int]) (fun _ _ _ => by simp) (fun _ _ => ⟨rfl, rfl⟩)
  have e2 : sSet 4 (xLc (xIt (xVar 3)) (gN 6) (xCmpT gEq (xPure gLen (yCons (xVar 6) (yNil))) (xBin Lf.gSub (xVar 0) (xC (.int 1)))) (xVar 6) [6]) [.sh (.int k), .sh F, .sh (dTI f), .ow (.lst (some'.map dLI)), .no, .no, .no] = some (.ok .nx [.sh (.int k), .sh F, .sh (dTI f), .ow (.lst (some'.map dLI)), .ow (.lst (bes.map dLI)), .no, .no]) := by
    rw [q_set, q_xTk, c2]; rfl
  have c3 := fun own : List Int => lc_map (fi := xIt (xVar 4)) (g := gN 6) (ct := xTr (xCall φ__law_within (yCons (xVar 5) (yCons (xVar 6) (yNil))))) (fe := xVar 6) (vs := [6]) (ρ := [.sh (.int k), .sh F, .sh (dTI f), .lk (.lst (some'.map dLI)), .ow (.lst (bes.map dLI)), .sh (dLI own), .no]) (u := some 4) (dc := false) (ρ1 := [.sh (.int k), .sh F, .sh (dTI f), .lk (.lst (some'.map dLI)), .lk (.lst (bes.map dLI)), .sh (dLI own), .no])
    dLI bes (fun b => inB' own b) dLI (fun b => [.sh (.int k), .sh F, .sh (dTI f), .lk (.lst (some'.map dLI)), .lk (.lst (bes.map dLI)), .sh (dLI own), .sh (dLI b)]) rfl rfl (fun _ _ => rfl) (fun b _ => by simp [e_lwithin, bl]) (fun _ _ _ => by simp) (fun _ _ => ⟨rfl, rfl⟩)
  obtain ⟨ρ', ⟨s5, er⟩, e3⟩ := for_all (dc := false) (g := gN 5) (r := .sh (.bl false)) (fb := sIf (xCmpT gEq (xLc (xIt (xVar 4)) (gN 6) (xTr (xCall φ__law_within (yCons (xVar 5) (yCons (xVar 6) (yNil))))) (xVar 6) [6]) (xLst (xNil))) (sRet (xC (.bl false))) (sSkip))
    dLI (fun own => !decide (bes.filter (fun b => inB' own b) = [])) (fun ρ => ∃ s5, ρ = [.sh (.int k), .sh F, .sh (dTI f), .lk (.lst (some'.map dLI)), .ow (.lst (bes.map dLI)), s5, .no]) (fun own => [.sh (.int k), .sh F, .sh (dTI f), .lk (.lst (some'.map dLI)), .ow (.lst (bes.map dLI)), .sh (dLI own), .no]) some'
    (fun own _ ρ ⟨s5, e⟩ => by rw [e]; rfl) (fun own _ => ⟨_, rfl⟩) (fun own _ => by
      rw [q_if, q_cmpT, c3 own]
      simp only [q_bnd, q_lst, q_xN, q_rd_ow, Option.bind_some, gEq_nilL, q_asBl]
      cases decide (bes.filter (fun b => inB' own b) = []) <;> rfl) [.sh (.int k), .sh F, .sh (dTI f), .lk (.lst (some'.map dLI)), .ow (.lst (bes.map dLI)), .no, .no] ⟨_, rfl⟩
  subst er
  have ef : lawMay k here f = ((some'.all fun own => !decide (bes.filter (fun b => inB' own b) = [])) && !decide (f ∈ here)) := rfl
  refine run_sh rfl [.sh (.int k), .sh F, .sh (dTI f), .ow (.lst (some'.map dLI)), .ow (.lst (bes.map dLI)), s5, .no] ?_
  show fB__law_may [.sh (.int k), .sh F, .sh (dTI f), .no, .no, .no, .no] = _
  unfold fB__law_may
  rw [q_seq, e1, q_bnd]
  dsimp only
  rw [q_seq, e2, q_bnd]
  dsimp only
  rw [q_seq]
  unfold sFor
  rw [show xIt (xVar 3) [.sh (.int k), .sh F, .sh (dTI f), .ow (.lst (some'.map dLI)), .ow (.lst (bes.map dLI)), .no, .no] = some (.ok ⟨some'.map dLI, some 3, false⟩ [.sh (.int k), .sh F, .sh (dTI f), .lk (.lst (some'.map dLI)), .ow (.lst (bes.map dLI)), .no, .no]) from rfl, q_bnd]
  dsimp only
  rw [e3, ef]
  cases some'.all fun own => !decide (bes.filter (fun b => inB' own b) = []) with
  | true =>
    show sRet (xBin gNin (xVar 2) (xVar 1)) [.sh (.int k), .sh F, .sh (dTI f), .ow (.lst (some'.map dLI)), .ow (.lst (bes.map dLI)), s5, .no] = _
    simp [F, gNin_tl]
  | false => rfl
end K21

set_option Elab.async false
set_option linter.all false
set_option maxRecDepth 100000
set_option maxHeartbeats 1000000
/-! k21: the law's may is the program's. -/
namespace K21
open PySem PySem.Spec L2 Lf
theorem pw_nodup {f : List Int} (h : f.Pairwise (· < ·)) : f.Nodup := h.imp fun h => by omega
/-- one point is missing -/
theorem com_one {f o : List Int} {p : Int} (hf : f.Nodup) (hp : p ∈ f) (h1 : ∀ q ∈ f, q ≠ p → q ∈ o) (h2 : p ∉ o) : ((comL f o).length : Int) = f.length - 1 := by
  have e : comL f o = f.erase p := by
    rw [hf.erase_eq_filter]
    unfold comL
    refine List.filter_congr fun q hq => ?_
    by_cases e : q = p
    · subst e; simp [h2]
    · simp [e, h1 q hq e]
  have := List.length_erase_of_mem hp
  have := List.length_pos_of_mem hp
  rw [e]
  omega
theorem com_miss {f o : List Int} (h : ((comL f o).length : Int) = f.length - 1) : ∃ p ∈ f, p ∉ o ∧ ∀ q ∈ f, q ≠ p → q ∈ o := by
  have e := List.length_eq_countP_add_countP (fun p => decide (p ∈ o)) (l := f)
  rw [List.countP_eq_length_filter, List.countP_eq_length_filter] at e
  have e1 : (f.filter fun a => decide (¬ decide (a ∈ o) = true)).length = 1 := by
    unfold comL at h
    omega
  obtain ⟨p, ep⟩ := List.length_eq_one_iff.mp e1
  have hp : p ∈ f.filter fun a => decide (¬ decide (a ∈ o) = true) := by rw [ep]; exact List.mem_singleton.mpr rfl
  obtain ⟨h1, h2⟩ := List.mem_filter.mp hp
  refine ⟨p, h1, by simpa using h2, fun q hq hne => ?_⟩
  by_cases c : q ∈ o
  · exact c
  · have : q ∈ f.filter fun a => decide (¬ decide (a ∈ o) = true) := List.mem_filter.mpr ⟨hq, by simpa using c⟩
    rw [ep] at this
    exact absurd (List.mem_singleton.mp this) hne
theorem same_face {f o : List Int} (hf : f.Pairwise (· < ·)) (ho : o.Pairwise (· < ·)) (hl : f.length = o.length) (h : ∀ q ∈ f, q ∈ o) : f = o := by
  refine rise_eq hf ho fun i => ⟨h i, fun hi => ?_⟩
  by_cases c : i ∈ f
  · exact c
  · have hn : (i :: f).Nodup := List.nodup_cons.mpr ⟨c, pw_nodup hf⟩
    have := List.Nodup.length_le_of_subset hn (l₂ := o) fun q hq => by
      rcases List.mem_cons.mp hq with e | e
      · rw [e]; exact hi
      · exact h q e
    rw [List.length_cons] at this
    omega
theorem mayB_iff {here : List (List Int)} {f : List Int} : mayB here f = true ↔ ∀ o ∈ here, ∃ p ∈ f, (∃ o' ∈ here, ∀ q ∈ f, q ≠ p → q ∈ o') ∧ p ∉ o := by
  unfold mayB brought
  rw [List.all_eq_true]
  refine forall_congr' fun o => forall_congr' fun _ => ?_
  rw [List.any_eq_true]
  constructor
  · rintro ⟨p, h1, h2⟩
    obtain ⟨h3, h4⟩ := List.mem_filter.mp h1
    unfold broB at h4
    obtain ⟨o', h5, h6⟩ := List.any_eq_true.mp h4
    refine ⟨p, h3, ⟨o', h5, fun q hq hne => ?_⟩, by simpa using h2⟩
    have := List.all_eq_true.mp h6 q (List.mem_filter.mpr ⟨hq, by simpa using hne⟩)
    simpa using this
  · rintro ⟨p, h1, ⟨o', h2, h3⟩, h4⟩
    refine ⟨p, List.mem_filter.mpr ⟨h1, ?_⟩, by simpa using h4⟩
    unfold broB
    refine List.any_eq_true.mpr ⟨o', h2, List.all_eq_true.mpr fun q hq => ?_⟩
    obtain ⟨h5, h6⟩ := List.mem_filter.mp hq
    have := h3 q h5 (by simpa using h6)
    simpa using this
theorem lawMay_iff {k : Int} {here : List (List Int)} {f : List Int} (hf : f ∉ here) : lawMay k here f = true ↔ ∀ o ∈ here, ∃ o' ∈ here, ((comL f o').length : Int) = k - 1 ∧ ∀ q ∈ f, q ∈ o → q ∈ o' := by
  unfold lawMay
  have : (!decide (f ∈ here)) = true := by simpa using hf
  rw [this, Bool.and_true, List.all_eq_true]
  constructor
  · intro h o ho
    have := h _ (List.mem_map.mpr ⟨o, ho, rfl⟩)
    have hne : ((here.map (comL f)).filter (fun c => (c.length : Int) == k - 1)).filter (fun b => inB' (comL f o) b) ≠ [] := by simpa using this
    obtain ⟨b, hb⟩ := List.exists_mem_of_ne_nil _ hne
    obtain ⟨hb, hc⟩ := List.mem_filter.mp hb
    obtain ⟨hb, hd⟩ := List.mem_filter.mp hb
    obtain ⟨o', ho', rfl⟩ := List.mem_map.mp hb
    refine ⟨o', ho', by simpa using hd, fun q hq hqo => ?_⟩
    have hc : (comL f o).filter (fun p => !decide (p ∈ comL f o')) = [] := by simpa [inB'] using hc
    have := List.filter_eq_nil_iff.mp hc q (List.mem_filter.mpr ⟨hq, by simpa using hqo⟩)
    have : q ∈ comL f o' := by simpa using this
    simpa using (List.mem_filter.mp this).2
  · intro h own how
    obtain ⟨o, ho, rfl⟩ := List.mem_map.mp how
    obtain ⟨o', ho', hd, hq⟩ := h o ho
    have : comL f o' ∈ ((here.map (comL f)).filter (fun c => (c.length : Int) == k - 1)).filter (fun b => inB' (comL f o) b) := by
      refine List.mem_filter.mpr ⟨List.mem_filter.mpr ⟨List.mem_map.mpr ⟨o', ho', rfl⟩, by simpa using hd⟩, ?_⟩
      have : (comL f o).filter (fun p => !decide (p ∈ comL f o')) = [] := List.filter_eq_nil_iff.mpr fun q hq' => by
        obtain ⟨h1, h2⟩ := List.mem_filter.mp hq'
        have : q ∈ comL f o' := List.mem_filter.mpr ⟨h1, by simpa using hq q h1 (by simpa using h2)⟩
        simpa using this
      simpa [inB'] using this
    have hne := List.ne_nil_of_mem this
    simpa using hne
theorem may_eq {k : Int} {here : List (List Int)} {f : List Int} (hf : f ∉ here) (h1 : f.Pairwise (· < ·)) (h2 : (f.length : Int) = k) (h3 : ∀ o ∈ here, o.Pairwise (· < ·)) (h4 : ∀ o ∈ here, (o.length : Int) = k) : lawMay k here f = mayB here f := by
  rw [Bool.eq_iff_iff, lawMay_iff hf, mayB_iff]
  refine forall_congr' fun o => forall_congr' fun ho => ⟨?_, ?_⟩
  · rintro ⟨o', ho', hl, hq⟩
    obtain ⟨p, hp, hpo, hr⟩ := com_miss (f := f) (o := o') (by omega)
    exact ⟨p, hp, ⟨o', ho', hr⟩, fun z => hpo (hq p hp z)⟩
  · rintro ⟨p, hp, ⟨o', ho', hr⟩, hpo⟩
    have hpo' : p ∉ o' := fun z => by
      have e := same_face h1 (h3 o' ho') (by have := h4 o' ho'; omega) fun q hq => by
        by_cases c : q = p
        · rw [c]; exact z
        · exact hr q hq c
      exact hf (by rw [e]; exact ho')
    have := com_one (pw_nodup h1) hp hr hpo'
    exact ⟨o', ho', by omega, fun q hq hqo => hr q hq fun e => hpo (by rw [← e]; exact hqo)⟩
end K21

set_option Elab.async false
set_option linter.all false
set_option maxRecDepth 100000
set_option maxHeartbeats 1000000
/-! k21: _law_at, _law_numbers. -/
namespace K21
open PySem PySem.Spec L2 Lf
theorem e_lat (n k : Int) (fs : List (List Int)) (lot : List Int) (hl : ∀ i ∈ lot, okIx fs i) : φ__law_at [stk n k fs, dTI lot] = some (.ok (.ow (.lst ((lot.map (fcI fs)).map dTI))) .non) := by
  have h := lc_all (fi := xIt (xVar 1)) (g := gN 2) (fe := xBin gIx (xBin gIx (xVar 0) (xC (.int 2))) (xVar 2)) (vs := [2]) (ρ := [.sh (stk n k fs), .sh (dTI lot), .no]) (u := none) (dc := false) (ρ1 := [.sh (stk n k fs), .sh (dTI lot), .no])
    D.int lot (fun i => dTI (fcI fs i)) (fun i => [.sh (stk n k fs), .sh (dTI lot), .sh (.int i)]) rfl rfl (fun _ _ => rfl) (fun i hi => by simp [gIx2, gIxF (hl i hi)]) (fun _ _ => ⟨rfl, rfl⟩)
  refine run_ow rfl [.sh (stk n k fs), .sh (dTI lot), .no] ?_
  show fB__law_at [.sh (stk n k fs), .sh (dTI lot), .no] = _
  unfold fB__law_at
  simp only [q_ret, q_xTk, h, q_bnd, q_unl0, q_tk_ow, Option.map_some, List.map_map]
  rfl
theorem bit_1 (a i : Nat) : Builtin.bitAnd ((a : Int) / 2 ^ i) 1 = if a.testBit i = true then 1 else 0 := by
  have h := Bits.bit_at (x := (a : Int)) i
  have p : (0 : Int) ≤ 2 ^ i := Int.pow_nonneg (by omega)
  rw [Int.fdiv_eq_ediv_of_nonneg _ p] at h
  rw [h]
  have e : ((a : Int) / 2 ^ i % 2) = ((a / 2 ^ i % 2 : Nat) : Int) := by
    rw [Int.natCast_emod, Int.natCast_ediv, Int.natCast_pow]; rfl
  rw [e, Nat.testBit_eq_decide_div_mod_eq]
  have : a / 2 ^ i % 2 < 2 := Nat.mod_lt _ (by omega)
  by_cases c : a / 2 ^ i % 2 = 1
  · rw [if_pos (by simpa using c), c]; rfl
  · rw [if_neg (by simpa using c)]
    have : a / 2 ^ i % 2 = 0 := by omega
    rw [this]; rfl
theorem gShr_nat (a i : Nat) : gShr (.int a) (.int i) = some (.sh (.int ((a : Int) / 2 ^ i))) := by
  simp [gShr, g2I]
theorem gAnd_bit (a i : Nat) : gAnd (.int ((a : Int) / 2 ^ i)) (.int 1) = some (.sh (.int (if a.testBit i = true then 1 else 0))) := by
  rw [← bit_1]
  simp [gAnd, g2I]
/-- bits of a number above its length are clear -/
theorem lot_bits {a m : Nat} (h : a < 2 ^ m) : (numsN (Builtin.Int.intBits (a : Int))).filter (fun i => a.testBit i.toNat) = lotOf m a := by
  refine rise_eq ((numsN_pw _).sublist List.filter_sublist) (lotOf_pw _ _) fun i => ?_
  rw [List.mem_filter, numsN_mem, lotOf_mem]
  have hb : ∀ j : Nat, a.testBit j = true → j < m ∧ j < Builtin.Int.intBits (a : Int) := fun j hj => by
    constructor
    · refine Nat.lt_of_not_le fun c => ?_
      rw [Nat.testBit_lt_two_pow (Nat.lt_of_lt_of_le h (Nat.pow_le_pow_right (by omega) c))] at hj
      cases hj
    · unfold Builtin.Int.intBits
      have ha : a ≠ 0 := fun e => by rw [e, Nat.zero_testBit] at hj; cases hj
      rw [if_neg (by simpa using ha), Int.natAbs_natCast]
      refine Nat.lt_of_not_le fun c => ?_
      have := Nat.lt_log2_self (n := a)
      rw [Nat.testBit_lt_two_pow (Nat.lt_of_lt_of_le this (Nat.pow_le_pow_right (by omega) c))] at hj
      cases hj
  constructor
  · rintro ⟨⟨h0, h1⟩, h2⟩
    have := hb _ h2
    exact ⟨⟨h0, by omega⟩, h2⟩
  · rintro ⟨⟨h0, h1⟩, h2⟩
    have := hb _ h2
    exact ⟨⟨h0, by omega⟩, h2⟩
theorem e_numbers {m a : Nat} (h : a < 2 ^ m) (hm : m ≤ 9) : φ__law_numbers [.int a] = some (.ok (.sh (dTI (lotOf m a))) .non) := by
  let B := Builtin.Int.intBits (a : Int)
  have hB : B ≤ 1000 := by
    show Builtin.Int.intBits (a : Int) ≤ 1000
    unfold Builtin.Int.intBits
    split
    · omega
    · rename_i c
      have ha : a ≠ 0 := fun e => c (by rw [e]; rfl)
      rw [Int.natAbs_natCast]
      have h1 := Nat.log2_self_le ha
      refine Nat.le_of_not_lt fun c => ?_
      have h2 := Nat.pow_le_pow_right (n := 2) (by omega) (show m ≤ a.log2 by omega)
      omega
  have hr : xRng (yCons (xUn gBits (xVar 0)) (yNil)) [.sh (.int a), .no] = some (.ok ⟨(numsN B).map .int, none, false⟩ [.sh (.int a), .no]) := by
    have := q_rng (fs := yCons (xUn gBits (xVar 0)) (yNil)) (ρ := [.sh (.int a), .no]) (ρ1 := [.sh (.int a), .no]) (r := .sh (.int B)) (j := B) (by simp [gBits, B]) rfl (by omega)
    rw [Int.toNat_natCast] at this
    exact this
  have c1 := lc_map (fi := xRng (yCons (xUn gBits (xVar 0)) (yNil))) (g := gN 1) (ct := xTr (xBin gAnd (xBin gShr (xVar 0) (xVar 1)) (xC (.int 1)))) (fe := xVar 1) (vs := [1]) (ρ := [.sh (.int a), .no]) (u := none) (dc := false) (ρ1 := [.sh (.int a), .no])
    D.int (numsN B) (fun i => a.testBit i.toNat) D.int (fun i => [.sh (.int a), .sh (.int i)]) hr rfl (fun _ _ => rfl) (fun i hi => by
      obtain ⟨h0, _⟩ := numsN_mem.mp hi
      obtain ⟨j, rfl⟩ := Int.eq_ofNat_of_zero_le h0
      simp [gShr_nat, gAnd_bit]
      cases a.testBit j <;> rfl) (fun _ _ _ => by simp) (fun _ _ => ⟨rfl, rfl⟩)
  refine run_sh rfl [.sh (.int a), .no] ?_
  show fB__law_numbers [.sh (.int a), .no] = _
  simp only [fB__law_numbers, q_ret, q_xTk, q_pure, q_yC, q_yN]
  rw [c1, lot_bits h]
  simp [gTuple, dTI]
end K21

set_option Elab.async false
set_option linter.all false
set_option maxRecDepth 100000
set_option maxHeartbeats 1000000
/-! k21: _law_lots_of. -/
namespace K21
open PySem PySem.Spec L2 Lf
theorem numsN_at {N : Nat} {dn rr : List Int} {x : Int} (h : numsN N = dn ++ x :: rr) : x = dn.length ∧ dn.length < N := by
  have e : (numsN N)[dn.length]? = some x := by rw [h, List.getElem?_append_right (Nat.le_refl _), Nat.sub_self]; rfl
  unfold numsN at e
  rw [List.getElem?_map] at e
  obtain ⟨j, e1, e2⟩ := Option.map_eq_some_iff.mp e
  obtain ⟨h1, h2⟩ := List.getElem?_eq_some_iff.mp e1
  rw [List.length_range] at h1
  rw [List.getElem_range] at h2
  exact ⟨by rw [← e2, h2], h1⟩
/-- the keys so far, lots below L gone through -/
def KeyAt (fs : List (List Int)) (L : Nat) (b : Nat) : Prop := b = 0 ∨ ∃ a i : Nat, a < L ∧ Reach fs a ∧ i < fs.length ∧ a.testBit i = false ∧ mayB ((lotOf fs.length a).map (fcI fs)) (fcI fs (i : Int)) = true ∧ b = a + 2 ^ i
theorem Reach.lt {fs : List (List Int)} {a : Nat} (h : Reach fs a) : a < 2 ^ fs.length := h.elim fun _ h => h.lt
theorem keyAt_reach {fs : List (List Int)} {L b : Nat} (h : KeyAt fs L b) : Reach fs b := by
  rcases h with h | ⟨a, i, _, ⟨c, h1⟩, h2, h3, h4, h5⟩
  · subst h; exact ⟨0, .zero⟩
  · rw [h5]; exact ⟨_, h1.step h2 h3 h4⟩
theorem keyAt_self {fs : List (List Int)} {L : Nat} : KeyAt fs L L ↔ Reach fs L := ⟨keyAt_reach, fun ⟨c, h⟩ => by
  cases h with
  | zero => exact .inl rfl
  | @step d a i h1 h2 h3 h4 => exact .inr ⟨a, i, by have := Nat.two_pow_pos i; omega, ⟨d, h1⟩, h2, h3, h4, rfl⟩⟩
theorem keyAt_all {fs : List (List Int)} {b : Nat} : KeyAt fs (2 ^ fs.length) b ↔ Reach fs b := ⟨keyAt_reach, fun ⟨c, h⟩ => by
  cases h with
  | zero => exact .inl rfl
  | @step d a i h1 h2 h3 h4 => exact .inr ⟨a, i, h1.lt, ⟨d, h1⟩, h2, h3, h4, rfl⟩⟩
/-- keys of a dict of ints -/
structure KI (P : Nat → Prop) (kvs : List (Int × V)) : Prop where
  kd : KD kvs
  mem : ∀ z : Int, z ∈ kvs.map (·.1) ↔ ∃ b : Nat, z = (b : Int) ∧ P b
theorem KI.few {P : Nat → Prop} {kvs : List (Int × V)} {m : Nat} (h : KI P kvs) (hP : ∀ b, P b → b < 2 ^ m) : kvs.length ≤ 2 ^ m := by
  have := List.Nodup.length_le_of_subset (l₂ := numsN (2 ^ m)) h.kd.nd fun z hz => by
    obtain ⟨b, rfl, hb⟩ := (h.mem z).mp hz
    have := hP b hb
    have e : ((2 ^ m : Nat) : Int) = (2 : Int) ^ m := by rw [Int.natCast_pow]; rfl
    exact numsN_mem.mpr ⟨by omega, by omega⟩
  rw [List.length_map] at this
  unfold numsN at this
  rwa [List.length_map, List.length_range] at this
theorem KI.put {P P' : Nat → Prop} {kvs : List (Int × V)} (h : KI P kvs) (b : Nat) (v : Int) (hp : ∀ c, P' c ↔ P c ∨ c = b) : KI P' (putK kvs (b : Int) (.int v)) := ⟨h.kd.put _ _, fun z => by
  rw [putK_mem, h.mem]
  constructor
  · rintro (⟨c, e, hc⟩ | e)
    · exact ⟨c, e, (hp c).mpr (.inl hc)⟩
    · exact ⟨b, e, (hp b).mpr (.inr rfl)⟩
  · rintro ⟨c, e, hc⟩
    rcases (hp c).mp hc with hc | hc
    · exact .inl ⟨c, e, hc⟩
    · exact .inr (by rw [e, hc])⟩
end K21

set_option Elab.async false
set_option linter.all false
set_option maxRecDepth 100000
set_option maxHeartbeats 1000000
/-! k21: _law_lots_of, the walk. -/
namespace K21
open PySem PySem.Spec L2 Lf
abbrev lStepB : Ev Fl := sIf (xAnd (xCmpT gEq (xBin gAnd (xBin gShr (xVar 2) (xVar 6)) (xC (.int 1))) (xC (.int 0))) (xTr (xCall φ__law_may (yCons (xLn (xBin gIx (xVar 0) (xC (.int 1)))) (yCons (xVar 5) (yCons (xLn (xBin gIx (xVar 3) (xVar 6))) (yNil))))))) (sSeq (sSet 7 (xBin gAdd (xVar 2) (xBin gShl (xC (.int 1)) (xVar 6)))) (sDput (xVar 1) (xVar 7) (xBin gAdd (xGet2 (xVar 1) (xVar 7) (xC (.int 0))) (xBin gDget (xVar 1) (xVar 2))))) (sSkip)
theorem gShl_1 {i : Nat} (h : i ≤ 9) : gShl (.int 1) (.int i) = some (.sh (.int ((2 ^ i : Nat) : Int))) := by
  have e : ((2 ^ i : Nat) : Int) = (2 : Int) ^ i := by rw [Int.natCast_pow]; rfl
  rw [e]
  unfold gShl g2I
  dsimp only
  rw [if_pos (by
    refine decide_eq_true ⟨by omega, by omega, by decide⟩), Int.one_mul, Int.toNat_natCast]
theorem e_lStep {n k : Int} {fs : List (List Int)} {kvs : List (Int × V)} {a i : Nat} {s7 : Slot} (hm : fs.length ≤ 9) (hi : i < fs.length) (kd : KD kvs) (ha : (a : Int) ∈ kvs.map (·.1)) (hz : kvs.length < sizeLine) :
    ∃ (v : Int) (s7' : Slot), lStepB [.sh (stk n k fs), .ow (.dk kvs), .sh (.int a), .sh (.tup (fs.map dTI)), .sh (.int fs.length), .ow (.lst (((lotOf fs.length a).map (fcI fs)).map dTI)), .sh (.int i), s7] =
      some (.ok .nx [.sh (stk n k fs), .ow (.dk (if a.testBit i = false ∧ lawMay k ((lotOf fs.length a).map (fcI fs)) (fcI fs (i : Int)) = true then putK kvs ((a + 2 ^ i : Nat) : Int) (.int v) else kvs)), .sh (.int a), .sh (.tup (fs.map dTI)), .sh (.int fs.length), .ow (.lst (((lotOf fs.length a).map (fcI fs)).map dTI)), .sh (.int i), s7']) := by
  obtain ⟨v1, e1⟩ := kd.getD ((a + 2 ^ i : Nat) : Int) 0
  obtain ⟨v2, e2⟩ := kd.val ha
  let S := stk n k fs
  let F : D := .tup (fs.map dTI)
  let Hr : D := .lst (((lotOf fs.length a).map (fcI fs)).map dTI)
  have ok : okIx fs (i : Int) := ⟨by omega, by omega⟩
  have c1 : xCmpT gEq (xBin gAnd (xBin gShr (xVar 2) (xVar 6)) (xC (.int 1))) (xC (.int 0)) [.sh S, .ow (.dk kvs), .sh (.int a), .sh F, .sh (.int fs.length), .ow Hr, .sh (.int i), s7] = some (.ok (!a.testBit i) [.sh S, .ow (.dk kvs), .sh (.int a), .sh F, .sh (.int fs.length), .ow Hr, .sh (.int i), s7]) := by
    simp [gShr_nat, gAnd_bit, gEq_int]
    cases a.testBit i <;> rfl
  have c2 : xTr (xCall φ__law_may (yCons (xLn (xBin gIx (xVar 0) (xC (.int 1)))) (yCons (xVar 5) (yCons (xLn (xBin gIx (xVar 3) (xVar 6))) (yNil))))) [.sh S, .ow (.dk kvs), .sh (.int a), .sh F, .sh (.int fs.length), .ow Hr, .sh (.int i), s7] = some (.ok (lawMay k ((lotOf fs.length a).map (fcI fs)) (fcI fs (i : Int))) [.sh S, .ow (.dk kvs), .sh (.int a), .sh F, .sh (.int fs.length), .ow Hr, .sh (.int i), s7]) := by
    simp [-List.map_map, S, F, Hr, gIx1, gIxF ok, e_lmay, bl]
  cases hb : a.testBit i with
  | true =>
    refine ⟨0, s7, ?_⟩
    rw [if_neg (by simp)]
    show sIf _ _ _ [.sh S, .ow (.dk kvs), .sh (.int a), .sh F, .sh (.int fs.length), .ow Hr, .sh (.int i), s7] = _
    simp only [q_if, q_and, c1, q_bnd, hb, Bool.not_true, Bool.false_eq_true, if_false, q_skip]
    rfl
  | false =>
    cases hl : lawMay k ((lotOf fs.length a).map (fcI fs)) (fcI fs (i : Int)) with
    | false =>
      refine ⟨0, s7, ?_⟩
      rw [if_neg (by simp)]
      show sIf _ _ _ [.sh S, .ow (.dk kvs), .sh (.int a), .sh F, .sh (.int fs.length), .ow Hr, .sh (.int i), s7] = _
      simp only [q_if, q_and, c1, q_bnd, hb, Bool.not_false, if_true, c2, hl, Bool.false_eq_true, if_false, q_skip]
      rfl
    | true =>
      refine ⟨v1 + v2, .sh (.int ((a + 2 ^ i : Nat) : Int)), ?_⟩
      rw [if_pos ⟨rfl, rfl⟩]
      show sIf _ _ _ [.sh S, .ow (.dk kvs), .sh (.int a), .sh F, .sh (.int fs.length), .ow Hr, .sh (.int i), s7] = _
      simp only [q_if, q_and, c1, q_bnd, hb, Bool.not_false, if_true, c2, hl]
      have s1 : sSet 7 (xBin gAdd (xVar 2) (xBin gShl (xC (.int 1)) (xVar 6))) [.sh S, .ow (.dk kvs), .sh (.int a), .sh F, .sh (.int fs.length), .ow Hr, .sh (.int i), s7] = some (.ok .nx [.sh S, .ow (.dk kvs), .sh (.int a), .sh F, .sh (.int fs.length), .ow Hr, .sh (.int i), .sh (.int ((a + 2 ^ i : Nat) : Int))]) := by
        simp [gShl_1 (show i ≤ 9 by omega), gAdd]
      have g1 : gGet2 (.dk kvs) (.int ((a + 2 ^ i : Nat) : Int)) (.int 0) = some (.sh (.int v1)) := by
        show (vD ((valV kvs ((a + 2 ^ i : Nat) : Int)).getD (V.int 0))).map Val.sh = _
        rw [e1]; rfl
      have g2 : gDget (.dk kvs) (.int (a : Int)) = some (.sh (.int v2)) := by
        show (some (valV kvs (a : Int))).bind (fun o => o.bind fun v => (vD v).map Val.sh) = _
        rw [e2]; rfl
      have ga : xBin gAdd (xGet2 (xVar 1) (xVar 7) (xC (.int 0))) (xBin gDget (xVar 1) (xVar 2)) [.sh S, .ow (.dk kvs), .sh (.int a), .sh F, .sh (.int fs.length), .ow Hr, .sh (.int i), .sh (.int ((a + 2 ^ i : Nat) : Int))] = some (.ok (.sh (.int (v1 + v2))) [.sh S, .ow (.dk kvs), .sh (.int a), .sh F, .sh (.int fs.length), .ow Hr, .sh (.int i), .sh (.int ((a + 2 ^ i : Nat) : Int))]) := by
        simp only [xGet2, q_bin, q_var, List.getElem?_cons_succ, List.getElem?_cons_zero, q_bnd, q_rd_bw, isDict, if_true, q_c, fin3, q_rd_sh, Option.bind_some, g1, Option.map_some, q_fin2, g2]
        rfl
      have p1 : dputD (.dk kvs) (.int ((a + 2 ^ i : Nat) : Int)) (.int (v1 + v2)) = some (.dk (putK kvs ((a + 2 ^ i : Nat) : Int) (.int (v1 + v2)))) := by
        unfold dputD
        dsimp only
        rw [if_pos hz]
      rw [q_seq, s1, q_bnd]
      dsimp only
      unfold sDput
      rw [ga, q_bnd]
      simp only [q_var, List.getElem?_cons_succ, List.getElem?_cons_zero, q_bnd, q_rd_sh, Option.bind_some, dV, ownAt, p1, Option.map_some]
      rfl
end K21

set_option Elab.async false
set_option linter.all false
set_option maxRecDepth 100000
set_option maxHeartbeats 1000000
/-! k21: _law_lots_of, its loops. -/
namespace K21
open PySem PySem.Spec L2 Lf
theorem fcI_at {fs : List (List Int)} {i : Int} (h : okIx fs i) : fs[i.toNat]? = some (fcI fs i) := by
  obtain ⟨h0, h1⟩ := h
  have hl : i.toNat < fs.length := by omega
  unfold fcI
  rw [List.getD_eq_getElem?_getD, List.getElem?_eq_getElem hl]; rfl
theorem fcI_mem {fs : List (List Int)} {i : Int} (h : okIx fs i) : fcI fs i ∈ fs := List.mem_of_getElem? (fcI_at h)
theorem GS0.nd {n k : Int} {fs : List (List Int)} (g : GS0 n k fs) : fs.Nodup := g.so.imp fun {a b} h e => by
  subst e
  have := lexLt_asym a a h
  rw [h] at this
  cases this
theorem fcI_inj {n k : Int} {fs : List (List Int)} (g : GS0 n k fs) {i j : Int} (hi : okIx fs i) (hj : okIx fs j) (e : fcI fs i = fcI fs j) : i = j := by
  have h1 := fcI_at hi
  have h2 := fcI_at hj
  rw [e] at h1
  have hl : i.toNat < fs.length := by have := hi.1; have := hi.2; omega
  have := (List.getElem?_inj hl g.nd).mp (h1.trans h2.symm)
  have := hi.1
  have := hj.1
  omega
theorem lot_ok {m a : Nat} {i : Int} (h : i ∈ lotOf m a) : 0 ≤ i ∧ i < m := (lotOf_mem.mp h).1
theorem not_here {n k : Int} {fs : List (List Int)} (g : GS0 n k fs) {a i : Nat} (hi : i < fs.length) (hb : a.testBit i = false) : fcI fs (i : Int) ∉ (lotOf fs.length a).map (fcI fs) := fun h => by
  obtain ⟨j, hj, e⟩ := List.mem_map.mp h
  have := fcI_inj g (i := j) (j := i) (lot_ok hj) ⟨by omega, by omega⟩ e
  subst this
  have := (lotOf_mem.mp hj).2
  rw [Int.toNat_natCast, hb] at this
  cases this
theorem may_at {n k : Int} {fs : List (List Int)} (g : GS0 n k fs) {a i : Nat} (hi : i < fs.length) (hb : a.testBit i = false) : lawMay k ((lotOf fs.length a).map (fcI fs)) (fcI fs (i : Int)) = mayB ((lotOf fs.length a).map (fcI fs)) (fcI fs (i : Int)) := by
  have ok : okIx fs (i : Int) := ⟨by omega, by omega⟩
  have hm : ∀ o ∈ (lotOf fs.length a).map (fcI fs), o ∈ fs := fun o ho => by
    obtain ⟨j, hj, rfl⟩ := List.mem_map.mp ho
    exact fcI_mem (lot_ok hj)
  exact may_eq (not_here g hi hb) (g.up _ (fcI_mem ok)) (g.ln _ (fcI_mem ok)) (fun o ho => g.up _ (hm o ho)) fun o ho => g.ln _ (hm o ho)
abbrev lInB : Ev Fl := sFor (xRng (yCons (xVar 4) (yNil))) (gN 6) lStepB
theorem e_lIn {n k : Int} {fs : List (List Int)} (g : GS n k fs) {kvs : List (Int × V)} {a : Nat} {s6 s7 : Slot} (h6 : flatSlot (some s6) = true) (ha : Reach fs a) (hk : KI (KeyAt fs a) kvs) :
    ∃ (kvs' : List (Int × V)) (s6' s7' : Slot), lInB [.sh (stk n k fs), .ow (.dk kvs), .sh (.int a), .sh (.tup (fs.map dTI)), .sh (.int fs.length), .ow (.lst (((lotOf fs.length a).map (fcI fs)).map dTI)), s6, s7] =
      some (.ok .nx [.sh (stk n k fs), .ow (.dk kvs'), .sh (.int a), .sh (.tup (fs.map dTI)), .sh (.int fs.length), .ow (.lst (((lotOf fs.length a).map (fcI fs)).map dTI)), s6', s7']) ∧ flatSlot (some s6') = true ∧ KI (KeyAt fs (a + 1)) kvs' := by
  let S := stk n k fs
  let F : D := .tup (fs.map dTI)
  let Hr : D := .lst (((lotOf fs.length a).map (fcI fs)).map dTI)
  let P : Nat → Nat → Prop := fun c b => KeyAt fs a b ∨ ∃ i, i < c ∧ i < fs.length ∧ a.testBit i = false ∧ mayB ((lotOf fs.length a).map (fcI fs)) (fcI fs (i : Int)) = true ∧ b = a + 2 ^ i
  have hP : ∀ c b, P c b → Reach fs b := fun c b h => by
    rcases h with h | ⟨i, _, h2, h3, h4, h5⟩
    · exact keyAt_reach h
    · obtain ⟨d, ha⟩ := ha
      rw [h5]; exact ⟨_, ha.step h2 h3 h4⟩
  let I : List Int → Lf.Env → Prop := fun dn ρ => ∃ (kv : List (Int × V)) (t6 t7 : Slot), ρ = [.sh S, .ow (.dk kv), .sh (.int a), .sh F, .sh (.int fs.length), .ow Hr, t6, t7] ∧ flatSlot (some t6) = true ∧ KI (P dn.length) kv
  obtain ⟨ρ', hf, kv, t6, t7, er, hf6, hk'⟩ := for_inv (dc := false) (g := gN 6) (fb := lStepB) D.int I (numsN fs.length) [] [.sh S, .ow (.dk kvs), .sh (.int a), .sh F, .sh (.int fs.length), .ow Hr, s6, s7] rfl
    ⟨kvs, s6, s7, rfl, h6, hk.kd, fun z => by
      rw [hk.mem]
      exact ⟨fun ⟨b, e, h⟩ => ⟨b, e, .inl h⟩, fun ⟨b, e, h⟩ => ⟨b, e, h.elim id fun ⟨i, h, _⟩ => absurd h (Nat.not_lt_zero _)⟩⟩⟩ fun dn x rr ρ er ⟨kv, t6, t7, e, _, hk'⟩ => by
      subst e
      obtain ⟨ex, hi⟩ := numsN_at (show numsN fs.length = dn ++ x :: rr from er)
      subst ex
      have hz : kv.length < sizeLine := by
        have := hk'.few fun b hb => (hP _ b hb).lt
        have := g.ok0.z
        have := sz9
        omega
      obtain ⟨v, t7', e⟩ := e_lStep (n := n) (k := k) (s7 := t7) g.l9 hi hk'.kd ((hk'.mem _).mpr ⟨a, rfl, .inl (keyAt_self.mpr ha)⟩) hz
      refine ⟨_, _, rfl, e, _, _, _, rfl, rfl, ?_⟩
      rw [List.length_append, List.length_singleton]
      by_cases c : a.testBit dn.length = false ∧ lawMay k ((lotOf fs.length a).map (fcI fs)) (fcI fs (dn.length : Int)) = true
      · rw [if_pos c]
        refine hk'.put _ _ fun b => ?_
        have hm : mayB ((lotOf fs.length a).map (fcI fs)) (fcI fs (dn.length : Int)) = true := by rw [← may_at g.toGS0 hi c.1]; exact c.2
        constructor
        · rintro (h | ⟨i, h1, h2, h3, h4, h5⟩)
          · exact .inl (.inl h)
          · by_cases e : i = dn.length
            · exact .inr (by rw [h5, e])
            · exact .inl (.inr ⟨i, by omega, h2, h3, h4, h5⟩)
        · rintro ((h | ⟨i, h1, h2, h3, h4, h5⟩) | h)
          · exact .inl h
          · exact .inr ⟨i, by omega, h2, h3, h4, h5⟩
          · exact .inr ⟨dn.length, by omega, hi, c.1, hm, h⟩
      · rw [if_neg c]
        refine ⟨hk'.kd, fun z => ?_⟩
        rw [hk'.mem]
        constructor
        · rintro ⟨b, e, h | ⟨i, h1, h2⟩⟩
          · exact ⟨b, e, .inl h⟩
          · exact ⟨b, e, .inr ⟨i, by omega, h2⟩⟩
        · rintro ⟨b, e, h | ⟨i, h1, h2, h3, h4, h5⟩⟩
          · exact ⟨b, e, .inl h⟩
          · by_cases ei : i = dn.length
            · subst ei
              exact absurd ⟨h3, by rw [may_at g.toGS0 hi h3]; exact h4⟩ c
            · exact ⟨b, e, .inr ⟨i, by omega, h2, h3, h4, h5⟩⟩
  subst er
  refine ⟨kv, t6, t7, ?_, hf6, hk'.kd, fun z => ?_⟩
  · have hi : xRng (yCons (xVar 4) (yNil)) [.sh S, .ow (.dk kvs), .sh (.int a), .sh F, .sh (.int fs.length), .ow Hr, s6, s7] = some (.ok ⟨(numsN fs.length).map .int, none, false⟩ [.sh S, .ow (.dk kvs), .sh (.int a), .sh F, .sh (.int fs.length), .ow Hr, s6, s7]) := by
      have := q_rng (fs := yCons (xVar 4) (yNil)) (ρ := [.sh S, .ow (.dk kvs), .sh (.int a), .sh F, .sh (.int fs.length), .ow Hr, s6, s7]) (ρ1 := [.sh S, .ow (.dk kvs), .sh (.int a), .sh F, .sh (.int fs.length), .ow Hr, s6, s7]) (r := .sh (.int fs.length)) (j := fs.length) (by simp) rfl (by have := g.l9; omega)
      rw [Int.toNat_natCast] at this
      exact this
    exact for_eq hi hf
  · rw [hk'.mem]
    have hl : (numsN fs.length).length = fs.length := by
      unfold numsN
      rw [List.length_map, List.length_range]
    rw [List.nil_append, hl]
    constructor
    · rintro ⟨b, e, h | ⟨i, h1, h2, h3, h4, h5⟩⟩
      · rcases h with h | ⟨a', i, h1, h2⟩
        · exact ⟨b, e, .inl h⟩
        · exact ⟨b, e, .inr ⟨a', i, by omega, h2⟩⟩
      · exact ⟨b, e, .inr ⟨a, i, by omega, ha, h2, h3, h4, h5⟩⟩
    · rintro ⟨b, e, h | ⟨a', i, h1, h2, h3, h4, h5, h6⟩⟩
      · exact ⟨b, e, .inl (.inl h)⟩
      · by_cases ea : a' = a
        · subst ea
          exact ⟨b, e, .inr ⟨i, h3, h3, h4, h5, h6⟩⟩
        · exact ⟨b, e, .inl (.inr ⟨a', i, by omega, h2, h3, h4, h5, h6⟩)⟩
end K21

set_option Elab.async false
set_option linter.all false
set_option maxRecDepth 100000
set_option maxHeartbeats 1000000
/-! k21: _law_lots_of, whole. -/
namespace K21
open PySem PySem.Spec L2 Lf
abbrev lOutB : Ev Fl := sIf (xB (xBin gDin (xVar 2) (xVar 1))) (sSeq (sSet 5 (xLc (xRng (yCons (xVar 4) (yNil))) (gN 6) (xTr (xBin gAnd (xBin gShr (xVar 2) (xVar 6)) (xC (.int 1)))) (xBin gIx (xVar 3) (xVar 6)) [6])) lInB) (sSkip)
theorem KI.has {P : Nat → Prop} {kvs : List (Int × V)} (h : KI P kvs) (b : Nat) : (valV kvs (b : Int)).isSome = true ↔ P b := by
  constructor
  · intro z
    by_cases c : (b : Int) ∈ kvs.map (·.1)
    · obtain ⟨b', e, hb⟩ := (h.mem _).mp c
      have : b' = b := by omega
      rw [← this]; exact hb
    · rw [valV_none.mpr c] at z; cases z
  · intro z
    have c := (h.mem (b : Int)).mpr ⟨b, rfl, z⟩
    cases q : valV kvs (b : Int) with
    | none => exact absurd c (valV_none.mp q)
    | some v => rfl
theorem e_lOut {n k : Int} {fs : List (List Int)} (g : GS n k fs) {kvs : List (Int × V)} {L : Nat} {s5 s6 s7 : Slot} (h6 : flatSlot (some s6) = true) (hk : KI (KeyAt fs L) kvs) :
    ∃ (kvs' : List (Int × V)) (s5' s6' s7' : Slot), lOutB [.sh (stk n k fs), .ow (.dk kvs), .sh (.int L), .sh (.tup (fs.map dTI)), .sh (.int fs.length), s5, s6, s7] =
      some (.ok .nx [.sh (stk n k fs), .ow (.dk kvs'), .sh (.int L), .sh (.tup (fs.map dTI)), .sh (.int fs.length), s5', s6', s7']) ∧ flatSlot (some s6') = true ∧ KI (KeyAt fs (L + 1)) kvs' := by
  let S := stk n k fs
  let F : D := .tup (fs.map dTI)
  let Hr : D := .lst (((lotOf fs.length L).map (fcI fs)).map dTI)
  have ec : xB (xBin gDin (xVar 2) (xVar 1)) [.sh S, .ow (.dk kvs), .sh (.int L), .sh F, .sh (.int fs.length), s5, s6, s7] = some (.ok (valV kvs (L : Int)).isSome [.sh S, .ow (.dk kvs), .sh (.int L), .sh F, .sh (.int fs.length), s5, s6, s7]) := rfl
  by_cases c : KeyAt fs L L
  · have hs : (valV kvs (L : Int)).isSome = true := (hk.has L).mpr c
    have hr := keyAt_self.mp c
    have hi : xRng (yCons (xVar 4) (yNil)) [.sh S, .ow (.dk kvs), .sh (.int L), .sh F, .sh (.int fs.length), s5, s6, s7] = some (.ok ⟨(numsN fs.length).map .int, none, false⟩ [.sh S, .ow (.dk kvs), .sh (.int L), .sh F, .sh (.int fs.length), s5, s6, s7]) := by
      have := q_rng (fs := yCons (xVar 4) (yNil)) (ρ := [.sh S, .ow (.dk kvs), .sh (.int L), .sh F, .sh (.int fs.length), s5, s6, s7]) (ρ1 := [.sh S, .ow (.dk kvs), .sh (.int L), .sh F, .sh (.int fs.length), s5, s6, s7]) (r := .sh (.int fs.length)) (j := fs.length) (by simp) rfl (by have := g.l9; omega)
      rw [Int.toNat_natCast] at this
      exact this
    have c1 := lc_map (fi := xRng (yCons (xVar 4) (yNil))) (g := gN 6) (ct := xTr (xBin gAnd (xBin gShr (xVar 2) (xVar 6)) (xC (.int 1)))) (fe := xBin gIx (xVar 3) (xVar 6)) (vs := [6]) (ρ := [.sh S, .ow (.dk kvs), .sh (.int L), .sh F, .sh (.int fs.length), s5, s6, s7]) (u := none) (dc := false) (ρ1 := [.sh S, .ow (.dk kvs), .sh (.int L), .sh F, .sh (.int fs.length), s5, s6, s7])
      D.int (numsN fs.length) (fun i => L.testBit i.toNat) (fun i => dTI (fcI fs i)) (fun i => [.sh S, .ow (.dk kvs), .sh (.int L), .sh F, .sh (.int fs.length), s5, .sh (.int i), s7]) hi (by
        show (flatSlot (some s6) && true) = true
        rw [h6]; rfl) (fun _ _ => rfl) (fun i hi => by
        obtain ⟨h0, _⟩ := numsN_mem.mp hi
        obtain ⟨j, rfl⟩ := Int.eq_ofNat_of_zero_le h0
        simp [gShr_nat, gAnd_bit]
        cases L.testBit j <;> rfl) (fun i hi _ => by
        have ok : okIx fs i := numsN_mem.mp hi
        simp [F, gIxF ok]) (fun _ _ => ⟨rfl, rfl⟩)
    have e1 : sSet 5 (xLc (xRng (yCons (xVar 4) (yNil))) (gN 6) (xTr (xBin gAnd (xBin gShr (xVar 2) (xVar 6)) (xC (.int 1)))) (xBin gIx (xVar 3) (xVar 6)) [6]) [.sh S, .ow (.dk kvs), .sh (.int L), .sh F, .sh (.int fs.length), s5, s6, s7] = some (.ok .nx [.sh S, .ow (.dk kvs), .sh (.int L), .sh F, .sh (.int fs.length), .ow Hr, s6, s7]) := by
      rw [q_set, q_xTk, c1]
      show _ = some (R.ok Fl.nx [.sh S, .ow (.dk kvs), .sh (.int L), .sh F, .sh (.int fs.length), .ow (.lst (((lotOf fs.length L).map (fcI fs)).map dTI)), s6, s7])
      rw [List.map_map]; rfl
    obtain ⟨kvs', s6', s7', e2, f6, hk'⟩ := e_lIn g (s7 := s7) h6 hr hk
    refine ⟨kvs', .ow Hr, s6', s7', ?_, f6, hk'⟩
    show sIf _ _ _ [.sh S, .ow (.dk kvs), .sh (.int L), .sh F, .sh (.int fs.length), s5, s6, s7] = _
    rw [q_if, ec, q_bnd, hs, if_pos rfl, q_seq, e1, q_bnd]
    exact e2
  · have hs : (valV kvs (L : Int)).isSome = false := by
      cases q : (valV kvs (L : Int)).isSome with
      | false => rfl
      | true => exact absurd ((hk.has L).mp q) c
    refine ⟨kvs, s5, s6, s7, ?_, h6, hk.kd, fun z => ?_⟩
    · show sIf _ _ _ [.sh S, .ow (.dk kvs), .sh (.int L), .sh F, .sh (.int fs.length), s5, s6, s7] = _
      rw [q_if, ec, q_bnd, hs, if_neg (by simp)]
      rfl
    · rw [hk.mem]
      constructor
      · rintro ⟨b, e, h | ⟨a, i, h1, h2⟩⟩
        · exact ⟨b, e, .inl h⟩
        · exact ⟨b, e, .inr ⟨a, i, by omega, h2⟩⟩
      · rintro ⟨b, e, h | ⟨a, i, h1, h2, h3⟩⟩
        · exact ⟨b, e, .inl h⟩
        · by_cases ea : a = L
          · subst ea
            exact absurd (keyAt_self.mpr h2) c
          · exact ⟨b, e, .inr ⟨a, i, by omega, h2, h3⟩⟩
theorem e_lots_of {n k : Int} {fs : List (List Int)} (g : GS n k fs) : ∃ kvs : List (Int × V), φ__law_lots_of [stk n k fs] = some (.ok (.ow (.dk kvs)) .non) ∧ KI (Reach fs) kvs := by
  let S := stk n k fs
  let F : D := .tup (fs.map dTI)
  let I : List Int → Lf.Env → Prop := fun dn ρ => ∃ (kv : List (Int × V)) (t2 t5 t6 t7 : Slot), ρ = [.sh S, .ow (.dk kv), t2, .sh F, .sh (.int fs.length), t5, t6, t7] ∧ flatSlot (some t6) = true ∧ KI (KeyAt fs dn.length) kv
  have k0 : KI (KeyAt fs 0) [((0 : Int), V.int 1)] := ⟨.one _ _, fun z => by
    rw [List.map_cons, List.map_nil, List.mem_singleton]
    constructor
    · intro e
      exact ⟨0, e, .inl rfl⟩
    · rintro ⟨b, e, h | ⟨a, i, h1, _⟩⟩
      · rw [e, h]; rfl
      · exact absurd h1 (Nat.not_lt_zero _)⟩
  obtain ⟨ρ', hf, kv, t2, t5, t6, t7, er, _, hk'⟩ := for_inv (dc := false) (g := gN 2) (fb := lOutB) D.int I (numsN (2 ^ fs.length)) [] [.sh S, .ow (.dk [(0, .int 1)]), .no, .sh F, .sh (.int fs.length), .no, .no, .no] rfl
    ⟨_, _, _, _, _, rfl, rfl, k0⟩ fun dn x rr ρ er ⟨kv, t2, t5, t6, t7, e, f6, hk'⟩ => by
      subst e
      obtain ⟨ex, hi⟩ := numsN_at (show numsN (2 ^ fs.length) = dn ++ x :: rr from er)
      subst ex
      obtain ⟨kv', s5', s6', s7', e, f6', hk2⟩ := e_lOut g (s5 := t5) (s7 := t7) f6 hk'
      refine ⟨_, _, rfl, e, _, _, _, _, _, rfl, f6', ?_⟩
      rw [List.length_append, List.length_singleton]
      exact hk2
  subst er
  have hl : (numsN (2 ^ fs.length)).length = 2 ^ fs.length := by
    unfold numsN
    rw [List.length_map, List.length_range]
  rw [List.nil_append, hl] at hk'
  refine ⟨kv, ?_, hk'.kd, fun z => by
    rw [hk'.mem]
    exact ⟨fun ⟨b, e, h⟩ => ⟨b, e, keyAt_all.mp h⟩, fun ⟨b, e, h⟩ => ⟨b, e, keyAt_all.mpr h⟩⟩⟩
  refine run_ow rfl [.sh S, .no, t2, .sh F, .sh (.int fs.length), t5, t6, t7] ?_
  show fB__law_lots_of [.sh S, .no, .no, .no, .no, .no, .no, .no] = _
  unfold fB__law_lots_of
  have l : gLen [.tup (fs.map dTI)] = some (.sh (.int fs.length)) := by
    show some (Val.sh (.int ((fs.map dTI).length : Nat))) = _
    rw [List.length_map]
  have e1 : sPar 3 4 (xBin gIx (xVar 0) (xC (.int 2))) (xPure gLen (yCons (xBin gIx (xVar 0) (xC (.int 2))) (yNil))) [.sh S, .no, .no, .no, .no, .no, .no, .no] = some (.ok .nx [.sh S, .no, .no, .sh F, .sh (.int fs.length), .no, .no, .no]) := by
    unfold sPar
    simp [S, F, gIx2, l]
  have e2 : sSet 1 (xDisp1 false (xC (.int 0)) (xC (.int 1))) [.sh S, .no, .no, .sh F, .sh (.int fs.length), .no, .no, .no] = some (.ok .nx [.sh S, .ow (.dk [(0, .int 1)]), .no, .sh F, .sh (.int fs.length), .no, .no, .no]) := rfl
  rw [q_seq, e1, q_bnd]
  dsimp only
  rw [q_seq, e2, q_bnd]
  dsimp only
  have hi : xRng (yCons (xBin gShl (xC (.int 1)) (xVar 4)) (yNil)) [.sh S, .ow (.dk [(0, .int 1)]), .no, .sh F, .sh (.int fs.length), .no, .no, .no] = some (.ok ⟨(numsN (2 ^ fs.length)).map .int, none, false⟩ [.sh S, .ow (.dk [(0, .int 1)]), .no, .sh F, .sh (.int fs.length), .no, .no, .no]) := by
    have h512 := g.ok0.z
    have := q_rng (fs := yCons (xBin gShl (xC (.int 1)) (xVar 4)) (yNil)) (ρ := [.sh S, .ow (.dk [(0, .int 1)]), .no, .sh F, .sh (.int fs.length), .no, .no, .no]) (ρ1 := [.sh S, .ow (.dk [(0, .int 1)]), .no, .sh F, .sh (.int fs.length), .no, .no, .no]) (r := .sh (.int ((2 ^ fs.length : Nat) : Int))) (j := ((2 ^ fs.length : Nat) : Int)) (by simp [gShl_1 g.l9]) rfl (by omega)
    rw [Int.toNat_natCast] at this
    exact this
  rw [q_seq, for_eq hi hf, q_bnd]
  show sRet (xVar 1) [.sh S, .ow (.dk kv), t2, .sh F, .sh (.int fs.length), t5, t6, t7] = _
  rfl
end K21

set_option Elab.async false
set_option linter.all false
set_option maxRecDepth 100000
set_option maxHeartbeats 1000000
/-! k21: _law_same of a thing and itself. -/
namespace K21
open PySem PySem.Spec L2 Lf
/-- plain things, at most so deep -/
inductive Pl : Nat → D → Prop
  | non {n} : Pl (n + 1) .non
  | bl {n} (b : Bool) : Pl (n + 1) (.bl b)
  | int {n} (i : Int) : Pl (n + 1) (.int i)
  | str {n} (s : Str) : SeqAt.shaped (.str s) = true → Pl (n + 1) (.str s)
  | tup {n} {ds : List D} : (∀ d ∈ ds, Pl n d) → Pl (n + 1) (.tup ds)
  | lst {n} {ds : List D} : (∀ d ∈ ds, Pl n d) → Pl (n + 1) (.lst ds)
theorem eqD_bl (a b : Bool) : eqD (.bl a) (.bl b) = some (a == b) := by
  unfold eqD toP
  show (if SeqAt.shaped (.bool a) = true ∧ SeqAt.shaped (.bool b) = true then some (PyData.eqv (.bool a) (.bool b)) else none) = _
  rw [if_pos ⟨by simp [SeqAt.shaped, PyData.canLay0, PyData.depth], by simp [SeqAt.shaped, PyData.canLay0, PyData.depth]⟩, PyData.eqv]
theorem gNe_bl (a b : Bool) : gNe (.bl a) (.bl b) = some (.sh (.bl (!(a == b)))) := by unfold gNe; rw [eqD_bl]; rfl
theorem gEq_bl (a b : Bool) : gEq (.bl a) (.bl b) = some (.sh (.bl (a == b))) := by unfold gEq; rw [eqD_bl]; rfl
theorem gEq_strS (s : Str) (h : SeqAt.shaped (.str s) = true) : gEq (.str s) (.str s) = some (.sh (.bl true)) := by
  unfold gEq eqD toP
  show (if SeqAt.shaped (.str s) = true ∧ SeqAt.shaped (.str s) = true then some (PyData.eqv (.str s) (.str s)) else none).map (fun k => Val.sh (.bl k)) = _
  rw [if_pos ⟨h, h⟩, PyData.eqv]
  simp
theorem zipD_self : ∀ ds : List D, zipD ds ds = ds.map fun d => .tup [d, d]
  | [] => by simp [zipD]
  | d :: ds => by simp [zipD, zipD_self ds]
theorem e_same : ∀ (n : Nat) (d : D), Pl n d → φ__law_same n [d, d] = bl true
  | 0, _, h => nomatch h
  | n + 1, _, h => by
    cases h with
    | non =>
      refine run_sh rfl [.sh .non, .sh .non, .no, .no] ?_
      show fB__law_same (φ__law_same n) [.sh .non, .sh .non, .no, .no] = _
      simp [fB__law_same, gIs, isNone]
    | bl b =>
      refine run_sh rfl [.sh (.bl b), .sh (.bl b), .no, .no] ?_
      show fB__law_same (φ__law_same n) [.sh (.bl b), .sh (.bl b), .no, .no] = _
      simp [fB__law_same, gIs, isNone, kitB2, gNe_bl, gEq_bl]
    | int i =>
      refine run_sh rfl [.sh (.int i), .sh (.int i), .no, .no] ?_
      show fB__law_same (φ__law_same n) [.sh (.int i), .sh (.int i), .no, .no] = _
      simp [fB__law_same, gIs, isNone, kitB2, gNe_bl, gEq_int]
    | str s hs =>
      refine run_sh rfl [.sh (.str s), .sh (.str s), .no, .no] ?_
      show fB__law_same (φ__law_same n) [.sh (.str s), .sh (.str s), .no, .no] = _
      simp [fB__law_same, gIs, isNone, kitB2, gNe_bl, gEq_strS s hs]
    | @tup _ ds h =>
      have c1 := lc_all (fi := xZip (yCons (xVar 0) (yCons (xVar 1) (yNil)))) (g := gT [2, 3]) (fe := xCall (φ__law_same n) (yCons (xVar 2) (yCons (xVar 3) (yNil)))) (vs := [2, 3]) (ρ := [.sh (.tup ds), .sh (.tup ds), .no, .no]) (u := none) (dc := false) (ρ1 := [.sh (.tup ds), .sh (.tup ds), .no, .no])
        (fun d : D => .tup [d, d]) ds (fun _ => .bl true) (fun d => [.sh (.tup ds), .sh (.tup ds), .sh d, .sh d]) (by rw [← zipD_self]; rfl) rfl (fun _ _ => rfl) (fun d hd => by
          simp [e_same n d (h d hd), bl]) (fun _ _ => ⟨rfl, rfl⟩)
      have a1 := gAll_t ds
      have l : gLen [.tup ds] = some (.sh (.int ds.length)) := rfl
      refine run_sh rfl [.sh (.tup ds), .sh (.tup ds), .no, .no] ?_
      show fB__law_same (φ__law_same n) [.sh (.tup ds), .sh (.tup ds), .no, .no] = _
      simp [fB__law_same, gIs, isNone, kitB2, gNe_bl, gNe_int, l, c1, a1]
    | @lst _ ds h =>
      have c1 := lc_all (fi := xZip (yCons (xVar 0) (yCons (xVar 1) (yNil)))) (g := gT [2, 3]) (fe := xCall (φ__law_same n) (yCons (xVar 2) (yCons (xVar 3) (yNil)))) (vs := [2, 3]) (ρ := [.sh (.lst ds), .sh (.lst ds), .no, .no]) (u := none) (dc := false) (ρ1 := [.sh (.lst ds), .sh (.lst ds), .no, .no])
        (fun d : D => .tup [d, d]) ds (fun _ => .bl true) (fun d => [.sh (.lst ds), .sh (.lst ds), .sh d, .sh d]) (by rw [← zipD_self]; rfl) rfl (fun _ _ => rfl) (fun d hd => by
          simp [e_same n d (h d hd), bl]) (fun _ _ => ⟨rfl, rfl⟩)
      have a1 := gAll_t ds
      have l : gLen [.lst ds] = some (.sh (.int ds.length)) := rfl
      refine run_sh rfl [.sh (.lst ds), .sh (.lst ds), .no, .no] ?_
      show fB__law_same (φ__law_same n) [.sh (.lst ds), .sh (.lst ds), .no, .no] = _
      simp [fB__law_same, gIs, isNone, kitB2, gNe_bl, gNe_int, l, c1, a1]
theorem pl_tI (n : Nat) (k : List Int) : Pl (n + 2) (dTI k) := .tup fun d hd => by
  obtain ⟨i, _, rfl⟩ := List.mem_map.mp hd
  exact .int i
theorem pl_tIs (n : Nat) (ks : List (List Int)) : Pl (n + 3) (.lst (ks.map dTI)) := .lst fun d hd => by
  obtain ⟨i, _, rfl⟩ := List.mem_map.mp hd
  exact pl_tI n i
end K21

set_option Elab.async false
set_option linter.all false
set_option maxRecDepth 100000
set_option maxHeartbeats 1000000
/-! k21: _law_right. -/
namespace K21
open PySem PySem.Spec L2 Lf
theorem sortT_len (ks : List (List Int)) : (sortT ks).length = ks.length := (List.mergeSort_perm ks _).length_eq
theorem eqD_nilT (ks : List (List Int)) : eqD (.lst (ks.map dTI)) (.lst []) = some (decide (ks = [])) := by
  unfold eqD
  have e1 : toP (.lst (ks.map dTI)) = some (.list (ks.map fun k => .tuple (k.map .int))) := by
    unfold toP
    rw [toPs_tI]; rfl
  have e2 : toP (.lst []) = some (.list []) := by
    unfold toP toPs
    rfl
  rw [e1, e2]
  show (if SeqAt.shaped (.list (ks.map fun k => .tuple (k.map .int))) = true ∧ SeqAt.shaped (.list []) = true then some (PyData.eqv (.list (ks.map fun k => .tuple (k.map .int))) (.list [])) else none) = _
  rw [if_pos ⟨shapedL_tI ks, shapedL_int []⟩, PyData.eqv]
  cases ks <;> simp [PyData.eqvAll]
theorem gEq_nilT (ks : List (List Int)) : gEq (.lst (ks.map dTI)) (.lst []) = some (.sh (.bl (decide (ks = [])))) := by unfold gEq; rw [eqD_nilT]; rfl
theorem gNe_nilT (ks : List (List Int)) : gNe (.lst (ks.map dTI)) (.lst []) = some (.sh (.bl (!decide (ks = [])))) := by unfold gNe; rw [eqD_nilT]; rfl
/-- what is stuck, as the law sees it -/
theorem stuck_eq {n k : Int} {fs : List (List Int)} (g : GS0 n k fs) (a : Nat) :
    (decide ((fs.filter fun f => !decide (f ∈ (lotOf fs.length a).map (fcI fs))).filter (fun f => lawMay k ((lotOf fs.length a).map (fcI fs)) f) = []) && !decide ((fs.filter fun f => !decide (f ∈ (lotOf fs.length a).map (fcI fs))) = [])) = stuckB fs (lotOf fs.length a) := by
  have at' : ∀ f ∈ fs, ∃ i : Nat, i < fs.length ∧ f = fcI fs (i : Int) := fun f hf => by
    obtain ⟨i, hi, e⟩ := List.getElem_of_mem hf
    refine ⟨i, hi, ?_⟩
    unfold fcI
    rw [Int.toNat_natCast, List.getD_eq_getElem?_getD, List.getElem?_eq_getElem hi]
    exact e.symm
  have inH : ∀ i : Nat, i < fs.length → (fcI fs (i : Int) ∈ (lotOf fs.length a).map (fcI fs) ↔ a.testBit i = true) := fun i hi => by
    constructor
    · intro h
      cases q : a.testBit i with
      | true => rfl
      | false => exact absurd h (not_here g hi q)
    · intro h
      exact List.mem_map.mpr ⟨i, lotOf_mem.mpr ⟨⟨by omega, by omega⟩, h⟩, rfl⟩
  have b1 : decide ((fs.filter fun f => !decide (f ∈ (lotOf fs.length a).map (fcI fs))).filter (fun f => lawMay k ((lotOf fs.length a).map (fcI fs)) f) = []) = decide (stepsL fs (lotOf fs.length a) = []) := by
    rw [Bool.eq_iff_iff, decide_eq_true_eq, decide_eq_true_eq, List.filter_eq_nil_iff]
    constructor
    · intro h
      refine List.eq_nil_iff_forall_not_mem.mpr fun i hi => ?_
      obtain ⟨j, rfl, hj, hb, hm⟩ := steps_mem.mp hi
      refine h (fcI fs (j : Int)) (List.mem_filter.mpr ⟨fcI_mem ⟨by omega, by omega⟩, ?_⟩) ?_
      · have := not_here g hj hb
        simpa using this
      · rw [may_at g hj hb]; exact hm
    · intro h f hf hm
      obtain ⟨hf, hn⟩ := List.mem_filter.mp hf
      obtain ⟨i, hi, rfl⟩ := at' f hf
      have hn : ¬ fcI fs (i : Int) ∈ (lotOf fs.length a).map (fcI fs) := by simpa using hn
      have hb : a.testBit i = false := by
        cases q : a.testBit i with
        | false => rfl
        | true => exact absurd ((inH i hi).mpr q) hn
      rw [may_at g hi hb] at hm
      have : (i : Int) ∈ stepsL fs (lotOf fs.length a) := steps_mem.mpr ⟨i, rfl, hi, hb, hm⟩
      rw [h] at this
      cases this
  have b2 : (!decide ((fs.filter fun f => !decide (f ∈ (lotOf fs.length a).map (fcI fs))) = [])) = decide ((lotOf fs.length a).length < fs.length) := by
    rw [Bool.eq_iff_iff, decide_eq_true_eq]
    have : (!decide ((fs.filter fun f => !decide (f ∈ (lotOf fs.length a).map (fcI fs))) = [])) = true ↔ (fs.filter fun f => !decide (f ∈ (lotOf fs.length a).map (fcI fs))) ≠ [] := by simp
    rw [this]
    constructor
    · intro h
      obtain ⟨f, hf⟩ := List.exists_mem_of_ne_nil _ h
      obtain ⟨hf, hn⟩ := List.mem_filter.mp hf
      obtain ⟨i, hi, rfl⟩ := at' f hf
      have hn : ¬ fcI fs (i : Int) ∈ (lotOf fs.length a).map (fcI fs) := by simpa using hn
      have hni : (i : Int) ∉ lotOf fs.length a := fun z => hn (List.mem_map.mpr ⟨_, z, rfl⟩)
      have := List.Nodup.length_le_of_subset (List.nodup_cons.mpr ⟨hni, (lotOf_pw fs.length a).imp fun h => by omega⟩) (l₂ := numsN fs.length) fun q hq => by
        rcases List.mem_cons.mp hq with e | e
        · rw [e]; exact numsN_mem.mpr ⟨by omega, by omega⟩
        · exact numsN_mem.mpr (lot_ok e)
      unfold numsN at this
      rw [List.length_cons, List.length_map, List.length_range] at this
      omega
    · intro h e
      have all : ∀ i : Nat, i < fs.length → (i : Int) ∈ lotOf fs.length a := fun i hi => by
        have := List.filter_eq_nil_iff.mp e (fcI fs (i : Int)) (fcI_mem ⟨by omega, by omega⟩)
        have : fcI fs (i : Int) ∈ (lotOf fs.length a).map (fcI fs) := by simpa using this
        exact lotOf_mem.mpr ⟨⟨by omega, by omega⟩, by rw [Int.toNat_natCast]; exact (inH i hi).mp this⟩
      have := List.Nodup.length_le_of_subset ((numsN_pw fs.length).imp (S := (· ≠ ·)) fun h => by omega) (l₂ := lotOf fs.length a) fun q hq => by
        obtain ⟨h0, h1⟩ := numsN_mem.mp hq
        obtain ⟨j, rfl⟩ := Int.eq_ofNat_of_zero_le h0
        exact all j (by omega)
      unfold numsN at this
      rw [List.length_map, List.length_range] at this
      omega
  rw [b1, b2, Bool.and_comm]
  rfl
abbrev stB : Ev Fl := sSeq (sSet 6 (xCall φ__law_at (yCons (xVar 0) (yCons (xVar 4) (yNil))))) (sSeq (sSet 7 (xLc (xIt (xBin gIx (xVar 0) (xC (.int 2)))) (gN 10) (xCmpT gNin (xVar 10) (xVar 6)) (xVar 10) [10])) (sSeq (sSet 8 (xLc (xIt (xVar 7)) (gN 10) (xTr (xCall φ__law_may (yCons (xLn (xBin gIx (xVar 0) (xC (.int 1)))) (yCons (xVar 6) (yCons (xVar 10) (yNil)))))) (xVar 10) [10])) (sIf (xAnd (xCmpT gEq (xVar 8) (xLst (xNil))) (xCmpT gNe (xVar 7) (xLst (xNil)))) (sDo (xMutS isL mAppend (xVar 3) (xCons (xShK (xVar 4)) (xNil)))) (sSkip))))
theorem e_stB {n k : Int} {fs : List (List Int)} (g : GS n k fs) (a : Nat) {s1 s2 s6 s7 s8 : Slot} {st : List (List Int)} (hz : st.length < sizeLine) :
    ∃ (t6 t7 t8 : Slot), stB [.sh (stk n k fs), s1, s2, .ow (.lst (st.map dTI)), .sh (dTI (lotOf fs.length a)), .no, s6, s7, s8, .no, .no] =
      some (.ok .nx [.sh (stk n k fs), s1, s2, .ow (.lst ((if stuckB fs (lotOf fs.length a) = true then st ++ [lotOf fs.length a] else st).map dTI)), .sh (dTI (lotOf fs.length a)), .no, t6, t7, t8, .no, .no]) ∧ slotImm t6 = true ∧ slotImm t7 = true ∧ slotImm t8 = true := by
  let S := stk n k fs
  let L := lotOf fs.length a
  let here := L.map (fcI fs)
  let left := fs.filter fun f => !decide (f ∈ here)
  let can := left.filter fun f => lawMay k here f
  have e1 : sSet 6 (xCall φ__law_at (yCons (xVar 0) (yCons (xVar 4) (yNil)))) [.sh S, s1, s2, .ow (.lst (st.map dTI)), .sh (dTI L), .no, s6, s7, s8, .no, .no] = some (.ok .nx [.sh S, s1, s2, .ow (.lst (st.map dTI)), .sh (dTI L), .no, .ow (.lst (here.map dTI)), s7, s8, .no, .no]) := by
    simp [-List.map_map, S, L, here, e_lat n k fs L (fun i hi => lot_ok hi)]
  have c2 := lc_map (fi := xIt (xBin gIx (xVar 0) (xC (.int 2)))) (g := gN 10) (ct := xCmpT gNin (xVar 10) (xVar 6)) (fe := xVar 10) (vs := [10]) (ρ := [.sh S, s1, s2, .ow (.lst (st.map dTI)), .sh (dTI L), .no, .ow (.lst (here.map dTI)), s7, s8, .no, .no]) (u := none) (dc := false) (ρ1 := [.sh S, s1, s2, .ow (.lst (st.map dTI)), .sh (dTI L), .no, .ow (.lst (here.map dTI)), s7, s8, .no, .no])
    dTI fs (fun f => !decide (f ∈ here)) dTI (fun f => [.sh S, s1, s2, .ow (.lst (st.map dTI)), .sh (dTI L), .no, .ow (.lst (here.map dTI)), s7, s8, .no, .sh (dTI f)]) (by simp [S, gIx2]) rfl (fun _ _ => rfl) (fun f _ => by simp [-List.map_map, gNin_tl]) (fun f _ _ => by simp) (fun _ _ => ⟨rfl, rfl⟩)
  have e2 : sSet 7 (xLc (xIt (xBin gIx (xVar 0) (xC (.int 2)))) (gN 10) (xCmpT gNin (xVar 10) (xVar 6)) (xVar 10) [10]) [.sh S, s1, s2, .ow (.lst (st.map dTI)), .sh (dTI L), .no, .ow (.lst (here.map dTI)), s7, s8, .no, .no] = some (.ok .nx [.sh S, s1, s2, .ow (.lst (st.map dTI)), .sh (dTI L), .no, .ow (.lst (here.map dTI)), .ow (.lst (left.map dTI)), s8, .no, .no]) := by
    rw [q_set, q_xTk, c2]; rfl
  have c3 := lc_map (fi := xIt (xVar 7)) (g := gN 10) (ct := xTr (xCall φ__law_may (yCons (xLn (xBin gIx (xVar 0) (xC (.int 1)))) (yCons (xVar 6) (yCons (xVar 10) (yNil)))))) (fe := xVar 10) (vs := [10]) (ρ := [.sh S, s1, s2, .ow (.lst (st.map dTI)), .sh (dTI L), .no, .ow (.lst (here.map dTI)), .ow (.lst (left.map dTI)), s8, .no, .no]) (u := some 7) (dc := false) (ρ1 := [.sh S, s1, s2, .ow (.lst (st.map dTI)), .sh (dTI L), .no, .ow (.lst (here.map dTI)), .lk (.lst (left.map dTI)), s8, .no, .no])
    dTI left (fun f => lawMay k here f) dTI (fun f => [.sh S, s1, s2, .ow (.lst (st.map dTI)), .sh (dTI L), .no, .ow (.lst (here.map dTI)), .lk (.lst (left.map dTI)), s8, .no, .sh (dTI f)]) rfl rfl (fun _ _ => rfl) (fun f _ => by simp [-List.map_map, S, gIx1, e_lmay, bl]) (fun f _ _ => by simp) (fun _ _ => ⟨rfl, rfl⟩)
  have e3 : sSet 8 (xLc (xIt (xVar 7)) (gN 10) (xTr (xCall φ__law_may (yCons (xLn (xBin gIx (xVar 0) (xC (.int 1)))) (yCons (xVar 6) (yCons (xVar 10) (yNil)))))) (xVar 10) [10]) [.sh S, s1, s2, .ow (.lst (st.map dTI)), .sh (dTI L), .no, .ow (.lst (here.map dTI)), .ow (.lst (left.map dTI)), s8, .no, .no] = some (.ok .nx [.sh S, s1, s2, .ow (.lst (st.map dTI)), .sh (dTI L), .no, .ow (.lst (here.map dTI)), .ow (.lst (left.map dTI)), .ow (.lst (can.map dTI)), .no, .no]) := by
    rw [q_set, q_xTk, c3]; rfl
  have hst : (decide (can = []) && !decide (left = [])) = stuckB fs L := stuck_eq g.toGS0 a
  have e4 : xAnd (xCmpT gEq (xVar 8) (xLst (xNil))) (xCmpT gNe (xVar 7) (xLst (xNil))) [.sh S, s1, s2, .ow (.lst (st.map dTI)), .sh (dTI L), .no, .ow (.lst (here.map dTI)), .ow (.lst (left.map dTI)), .ow (.lst (can.map dTI)), .no, .no] = some (.ok (stuckB fs L) [.sh S, s1, s2, .ow (.lst (st.map dTI)), .sh (dTI L), .no, .ow (.lst (here.map dTI)), .ow (.lst (left.map dTI)), .ow (.lst (can.map dTI)), .no, .no]) := by
    rw [← hst]
    simp only [q_and, q_cmpT, q_var, List.getElem?_cons_succ, List.getElem?_cons_zero, q_bnd, q_lst, q_xN, q_rd_bw, q_rd_ow, Option.bind_some, gEq_nilT, gNe_nilT, q_asBl]
    cases decide (can = []) <;> simp
  have im : ∀ ks : List (List Int), slotImm (.ow (.lst (ks.map dTI))) = true := fun ks => imm_tIs ks
  refine ⟨.ow (.lst (here.map dTI)), .ow (.lst (left.map dTI)), .ow (.lst (can.map dTI)), ?_, im _, im _, im _⟩
  show sSeq _ _ [.sh S, s1, s2, .ow (.lst (st.map dTI)), .sh (dTI L), .no, s6, s7, s8, .no, .no] = _
  rw [q_seq, e1, q_bnd]
  dsimp only
  rw [q_seq, e2, q_bnd]
  dsimp only
  rw [q_seq, e3, q_bnd]
  dsimp only
  rw [q_if, e4, q_bnd]
  by_cases hb : stuckB fs L = true
  · rw [if_pos hb, q_do, q_append (ds := st.map dTI) (x := dTI L) rfl (by rw [q_xC (q_shK rfl)]; rfl) (by rw [List.length_map]; exact hz), q_bnd]
    have : (if stuckB fs (lotOf fs.length a) = true then st ++ [lotOf fs.length a] else st) = st ++ [L] := if_pos hb
    rw [this, List.map_append]
    rfl
  · rw [if_neg hb, q_skip]
    have : (if stuckB fs (lotOf fs.length a) = true then st ++ [lotOf fs.length a] else st) = st := if_neg hb
    rw [this]
theorem imm_stk (n k : Int) (fs : List (List Int)) : imm (stk n k fs) = true := by
  unfold stk imm immAll imm
  unfold immAll imm
  unfold immAll imm
  rw [imm_tIs]; rfl
abbrev fourB : Ev Fl := sFour 9 (xCall φ_laid_lots (yCons (xVar 0) (yNil))) (xCall φ_stuck_lots (yCons (xVar 0) (yNil))) (xNot (xTr (xCall (φ__law_same 6) (yCons (xVar 9) (yCons (xLn (xLst (xCons (xShK (xVar 2)) (xCons (xShK (xVar 3)) (xNil))))) (yNil))))))
theorem e_four {n k : Int} {fs ks : List (List Int)} (g : GS n k fs) (h : IsLots fs ks) {kvs : List (Int × V)} {s2 s3 s4 s5 s6 s7 s8 : Slot} (h4 : slotImm s4 = true) (h5 : slotImm s5 = true) (h6 : slotImm s6 = true) (h7 : slotImm s7 = true) (h8 : slotImm s8 = true)
    (h2 : s2 = .ow (.lst ((sortT ks).map dTI)) ∧ s3 = .ow (.lst (((sortT ks).filter (stuckB fs)).map dTI)) ∨ s2 = .sh (.lst ((sortT ks).map dTI)) ∧ s3 = .sh (.lst (((sortT ks).filter (stuckB fs)).map dTI))) :
    fourB [.sh (stk n k fs), .ow (.dk kvs), s2, s3, s4, s5, s6, s7, s8, .no, .no] = some (.ok .nx [.sh (stk n k fs), .ow (.dk kvs), .sh (.lst ((sortT ks).map dTI)), .sh (.lst (((sortT ks).filter (stuckB fs)).map dTI)), s4, s5, s6, s7, s8, .no, .no]) := by
  let S := stk n k fs
  let A := (sortT ks).map dTI
  let B := ((sortT ks).filter (stuckB fs)).map dTI
  have few : ks.length ≤ 2 ^ fs.length := lots_few h.nd fun q hq => by
    obtain ⟨a, ⟨c, ha⟩, e⟩ := (h.mem q).mp hq
    exact ⟨a, ha.lt, e⟩
  have lA : A.length + 2 ≤ sizeLine := by
    show ((sortT ks).map dTI).length + 2 ≤ sizeLine
    rw [List.length_map, sortT_len]
    have := g.ok0.z
    have := sz9
    omega
  have lB : B.length + 2 ≤ sizeLine := by
    show (((sortT ks).filter (stuckB fs)).map dTI).length + 2 ≤ sizeLine
    rw [List.length_map]
    have := List.length_filter_le (stuckB fs) (sortT ks)
    rw [sortT_len] at this
    have := g.ok0.z
    have := sz9
    omega
  have f1 : xCall φ_laid_lots (yCons (xVar 0) (yNil)) [.sh S, .ow (.dk kvs), s2, s3, s4, s5, s6, s7, s8, .no, .no] = some (.ok (.ow (.lst A)) [.sh S, .ow (.dk kvs), s2, s3, s4, s5, s6, s7, s8, .no, .no]) := by
    simp [-List.map_map, S, A, e_laid_lots g h]
  have f2 : xCall φ_stuck_lots (yCons (xVar 0) (yNil)) [.sh S, .ow (.dk kvs), s2, s3, s4, s5, s6, s7, s8, .no, .no] = some (.ok (.ow (.lst B)) [.sh S, .ow (.dk kvs), s2, s3, s4, s5, s6, s7, s8, .no, .no]) := by
    simp [-List.map_map, S, B, e_stuck g h]
  have pl : φ__law_same 6 [.lst [.lst A, .lst B], .lst [.lst A, .lst B]] = bl true := e_same 6 _ (.lst fun d hd => by
    rcases List.mem_cons.mp hd with e | hd
    · rw [e]; exact pl_tIs 2 _
    · rw [List.mem_singleton.mp hd]; exact pl_tIs 2 _)
  have ct : (xNot (xTr (xCall (φ__law_same 6) (yCons (xVar 9) (yCons (xLn (xLst (xCons (xShK (xVar 2)) (xCons (xShK (xVar 3)) (xNil))))) (yNil)))))) [.sh S, .ow (.dk kvs), s2, s3, s4, s5, s6, s7, s8, .sh (.lst [.lst A, .lst B]), .no] = some (.ok false [.sh S, .ow (.dk kvs), .sh (.lst A), .sh (.lst B), s4, s5, s6, s7, s8, .sh (.lst [.lst A, .lst B]), .no]) := by
    have ea : (yCons (xVar 9) (yCons (xLn (xLst (xCons (xShK (xVar 2)) (xCons (xShK (xVar 3)) (xNil))))) (yNil))) [.sh S, .ow (.dk kvs), s2, s3, s4, s5, s6, s7, s8, .sh (.lst [.lst A, .lst B]), .no] = some (.ok [.sh (.lst [.lst A, .lst B]), .sh (.lst [.lst A, .lst B])] [.sh S, .ow (.dk kvs), .sh (.lst A), .sh (.lst B), s4, s5, s6, s7, s8, .sh (.lst [.lst A, .lst B]), .no]) := by
      rcases h2 with ⟨e2, e3⟩ | ⟨e2, e3⟩ <;> (subst e2; subst e3; rfl)
    rw [q_not, q_tr, q_call, ea]
    simp [pl, bl]
  have imA : immAll A = true := imm_tIs _
  have imB : immAll B = true := imm_tIs _
  have asA : asTs A = some (sortT ks) := asTs_tI _
  have asB : asTs B = some ((sortT ks).filter (stuckB fs)) := asTs_tI _
  have okr : okRest [.sh S, .ow (.dk kvs), s2, s3, s4, s5, s6, s7, s8, .no, .no] [.sh S, .ow (.dk kvs), .sh (.lst A), .sh (.lst B), s4, s5, s6, s7, s8, .no, .no] = true := by
    have any : ∀ s t : Slot, slotImm t = true → slotImm s = true → slotOk (some s) (some s) = true := fun s t _ h => by
      unfold slotOk
      split
      · rfl
      · rename_i z1 z2; cases z1; cases z2
      · rename_i z1 z2
        cases z1
        cases z2
        simp [slotImm, imm] at h
      · rename_i _ _ s' hs _ _
        cases hs
        exact h
    have x4 := any s4 _ h4 h4
    have x5 := any s5 _ h5 h5
    have x6 := any s6 _ h6 h6
    have x7 := any s7 _ h7 h7
    have x8 := any s8 _ h8 h8
    have x0 := any (.sh S) .no rfl (imm_stk n k fs)
    have x1 := any (.ow (.dk kvs)) .no rfl rfl
    have x2 : slotOk (some s2) (some (.sh (.lst A))) = true := by
      rcases h2 with ⟨e2, e3⟩ | ⟨e2, e3⟩
      · subst e2; exact imA
      · subst e2
        show (decide (asTs A = asTs A) && (asTs A).isSome) = true
        rw [asA]; simp
    have x3 : slotOk (some s3) (some (.sh (.lst B))) = true := by
      rcases h2 with ⟨e2, e3⟩ | ⟨e2, e3⟩
      · subst e3; exact imB
      · subst e3
        show (decide (asTs B = asTs B) && (asTs B).isSome) = true
        rw [asB]; simp
    have x9 : slotOk (some .no) (some .no) = true := rfl
    show ([0, 1, 2, 3, 4, 5, 6, 7, 8, 9, 10].all _) = true
    simp [x0, x1, x2, x3, x4, x5, x6, x7, x8, x9]
  show sFour _ _ _ _ [.sh S, .ow (.dk kvs), s2, s3, s4, s5, s6, s7, s8, .no, .no] = _
  unfold sFour
  rw [f1, q_bnd, f2, q_bnd]
  dsimp only
  rw [if_pos ⟨lA, lB, by simp⟩]
  show bnd ((xNot (xTr (xCall (φ__law_same 6) (yCons (xVar 9) (yCons (xLn (xLst (xCons (xShK (xVar 2)) (xCons (xShK (xVar 3)) (xNil))))) (yNil)))))) [.sh S, .ow (.dk kvs), s2, s3, s4, s5, s6, s7, s8, .sh (.lst [.lst A, .lst B]), .no]) _ = _
  rw [ct, q_bnd, if_neg (by simp)]
  show (if okRest [.sh S, .ow (.dk kvs), s2, s3, s4, s5, s6, s7, s8, .no, .no] [.sh S, .ow (.dk kvs), .sh (.lst A), .sh (.lst B), s4, s5, s6, s7, s8, .no, .no] = true then _ else _) = _
  rw [if_pos okr]
  rfl
theorem e_right {n k : Int} {fs : List (List Int)} (g : GS n k fs) : φ__law_right [stk n k fs] = bl true := by
  obtain ⟨kvs, e1, hk⟩ := e_lots_of g
  let S := stk n k fs
  let keys := kvs.map (·.1)
  let ks := keys.map fun z => lotOf fs.length z.toNat
  have hks : IsLots fs ks := by
    refine ⟨?_, fun q => ?_⟩
    · refine List.pairwise_map.mpr (List.Pairwise.imp_of_mem (fun {x y} hx hy hne e => hne ?_) hk.kd.nd)
      obtain ⟨a, rfl, ha⟩ := (hk.mem x).mp hx
      obtain ⟨b, rfl, hb⟩ := (hk.mem y).mp hy
      rw [Int.toNat_natCast, Int.toNat_natCast] at e
      rw [lotOf_inj ha.lt hb.lt e]
    · constructor
      · intro h
        obtain ⟨z, hz, rfl⟩ := List.mem_map.mp h
        obtain ⟨a, rfl, ha⟩ := (hk.mem z).mp hz
        exact ⟨a, ha, by rw [Int.toNat_natCast]⟩
      · rintro ⟨a, ha, rfl⟩
        exact List.mem_map.mpr ⟨(a : Int), (hk.mem _).mpr ⟨a, rfl, ha⟩, by rw [Int.toNat_natCast]⟩
  let lots := sortT ks
  have hlots : IsLots fs lots := hks.sort
  -- the lots
  have c2 := lc_all (fi := xIt (xVar 1)) (g := gN 4) (fe := xCall φ__law_numbers (yCons (xVar 4) (yNil))) (vs := [4]) (ρ := [.sh S, .ow (.dk kvs), .no, .no, .no, .no, .no, .no, .no, .no, .no]) (u := some 1) (dc := true) (ρ1 := [.sh S, .lk (.dk kvs), .no, .no, .no, .no, .no, .no, .no, .no, .no])
    D.int keys (fun z => dTI (lotOf fs.length z.toNat)) (fun z => [.sh S, .lk (.dk kvs), .no, .no, .sh (.int z), .no, .no, .no, .no, .no, .no]) (by
      have : dkItems kvs = keys.map D.int := by
        show _ = (kvs.map (·.1)).map D.int
        rw [List.map_map]; rfl
      rw [← this]; rfl) rfl (fun _ _ => rfl) (fun z hz => by
      obtain ⟨a, rfl, ha⟩ := (hk.mem z).mp hz
      simp [e_numbers ha.lt g.l9]) (fun _ _ => ⟨rfl, rfl⟩)
  have em : (keys.map fun z => dTI (lotOf fs.length z.toNat)) = ks.map dTI := by
    exact (List.map_map (f := fun z : Int => lotOf fs.length z.toNat) (g := dTI) (l := keys)).symm
  rw [em] at c2
  have gs : gSort [.lst (ks.map dTI)] = some (.ow (.lst (lots.map dTI))) := by
    show (sortL _).map (fun es => Val.ow (.lst es)) = _
    rw [sortL_tI]; rfl
  have s1 : sSet 1 (xCall φ__law_lots_of (yCons (xVar 0) (yNil))) [.sh S, .no, .no, .no, .no, .no, .no, .no, .no, .no, .no] = some (.ok .nx [.sh S, .ow (.dk kvs), .no, .no, .no, .no, .no, .no, .no, .no, .no]) := by
    simp [S, e1]
  have s2 : sSet 2 (xPure gSort (yCons (xLc (xIt (xVar 1)) (gN 4) (xYes) (xCall φ__law_numbers (yCons (xVar 4) (yNil))) [4]) (yNil))) [.sh S, .ow (.dk kvs), .no, .no, .no, .no, .no, .no, .no, .no, .no] = some (.ok .nx [.sh S, .ow (.dk kvs), .ow (.lst (lots.map dTI)), .no, .no, .no, .no, .no, .no, .no, .no]) := by
    rw [q_set, q_xTk, q_pure, q_yC, c2]
    simp only [q_bnd, q_yN, q_rdA, q_rd_ow, q_rdA0, Option.bind_some, Option.map_some, gs, q_tk_ow]
    rfl
  have s3 : sSet 3 (xLst (xNil)) [.sh S, .ow (.dk kvs), .ow (.lst (lots.map dTI)), .no, .no, .no, .no, .no, .no, .no, .no] = some (.ok .nx [.sh S, .ow (.dk kvs), .ow (.lst (lots.map dTI)), .ow (.lst []), .no, .no, .no, .no, .no, .no, .no]) := rfl
  -- the stuck ones
  have few : lots.length ≤ 2 ^ fs.length := lots_few hlots.nd fun q hq => by
    obtain ⟨a, ⟨c, ha⟩, e⟩ := (hlots.mem q).mp hq
    exact ⟨a, ha.lt, e⟩
  let I : List (List Int) → Lf.Env → Prop := fun dn ρ => ∃ t4 t6 t7 t8 : Slot, ρ = [.sh S, .ow (.dk kvs), .lk (.lst (lots.map dTI)), .ow (.lst ((dn.filter (stuckB fs)).map dTI)), t4, .no, t6, t7, t8, .no, .no] ∧ flatSlot (some t4) = true ∧ slotImm t4 = true ∧ slotImm t6 = true ∧ slotImm t7 = true ∧ slotImm t8 = true
  obtain ⟨ρ', hf, t4, t6, t7, t8, er, f4, i4, i6, i7, i8⟩ := for_inv (dc := false) (g := gN 4) (fb := stB) dTI I lots [] [.sh S, .ow (.dk kvs), .lk (.lst (lots.map dTI)), .ow (.lst []), .no, .no, .no, .no, .no, .no, .no] rfl
    ⟨.no, .no, .no, .no, rfl, rfl, rfl, rfl, rfl, rfl⟩ fun dn L rr ρ er ⟨t4, t6, t7, t8, e, _, _, _, _, _⟩ => by
      subst e
      have er : lots = dn ++ L :: rr := er
      have hL : L ∈ lots := by rw [er]; simp
      obtain ⟨a, ha, rfl⟩ := (hlots.mem L).mp hL
      have hz : (dn.filter (stuckB fs)).length < sizeLine := by
        have h1 := List.length_filter_le (stuckB fs) dn
        have h2 : lots.length = dn.length + (rr.length + 1) := by rw [er, List.length_append, List.length_cons]
        have := g.ok0.z
        have := sz9
        omega
      obtain ⟨u6, u7, u8, e, j6, j7, j8⟩ := e_stB g a (s1 := .ow (.dk kvs)) (s2 := .lk (.lst (lots.map dTI))) (s6 := t6) (s7 := t7) (s8 := t8) hz
      refine ⟨_, _, rfl, e, .sh (dTI (lotOf fs.length a)), u6, u7, u8, ?_, rfl, imm_tI _, j6, j7, j8⟩
      rw [List.filter_append, List.filter_cons, List.filter_nil]
      by_cases hb : stuckB fs (lotOf fs.length a) = true
      · rw [if_pos hb, if_pos hb]
      · rw [if_neg hb, if_neg hb, List.append_nil]
  subst er
  have s4 := for_eq (fi := xIt (xVar 2)) (g := gN 4) (fb := stB) (ρ := [.sh S, .ow (.dk kvs), .ow (.lst (lots.map dTI)), .ow (.lst []), .no, .no, .no, .no, .no, .no, .no]) (ρ1 := [.sh S, .ow (.dk kvs), .lk (.lst (lots.map dTI)), .ow (.lst []), .no, .no, .no, .no, .no, .no, .no]) (ds := lots.map dTI) (u := some 2) (dc := false) rfl hf
  have s4 : sFor (xIt (xVar 2)) (gN 4) stB [.sh S, .ow (.dk kvs), .ow (.lst (lots.map dTI)), .ow (.lst []), .no, .no, .no, .no, .no, .no, .no] = some (.ok .nx [.sh S, .ow (.dk kvs), .ow (.lst (lots.map dTI)), .ow (.lst ((lots.filter (stuckB fs)).map dTI)), t4, .no, t6, t7, t8, .no, .no]) := s4
  -- twice
  have g1 := e_four g hks (kvs := kvs) (s5 := .sh (.int 0)) i4 rfl i6 i7 i8 (.inl ⟨rfl, rfl⟩)
  have g2 := e_four g hks (kvs := kvs) (s5 := .sh (.int 1)) i4 rfl i6 i7 i8 (.inr ⟨rfl, rfl⟩)
  have hr : xRng (yCons (xC (.int 2)) (yNil)) [.sh S, .ow (.dk kvs), .ow (.lst (lots.map dTI)), .ow (.lst ((lots.filter (stuckB fs)).map dTI)), t4, .no, t6, t7, t8, .no, .no] = some (.ok ⟨[.int 0, .int 1], none, false⟩ [.sh S, .ow (.dk kvs), .ow (.lst (lots.map dTI)), .ow (.lst ((lots.filter (stuckB fs)).map dTI)), t4, .no, t6, t7, t8, .no, .no]) := rfl
  have s5 : sFor (xRng (yCons (xC (.int 2)) (yNil))) (gN 5) fourB [.sh S, .ow (.dk kvs), .ow (.lst (lots.map dTI)), .ow (.lst ((lots.filter (stuckB fs)).map dTI)), t4, .no, t6, t7, t8, .no, .no] = some (.ok .nx [.sh S, .ow (.dk kvs), .sh (.lst (lots.map dTI)), .sh (.lst ((lots.filter (stuckB fs)).map dTI)), t4, .sh (.int 1), t6, t7, t8, .no, .no]) := by
    refine for_eq (u := none) hr ?_
    rw [forF, q_gN]
    dsimp only
    show (match fourB [.sh S, .ow (.dk kvs), .ow (.lst (lots.map dTI)), .ow (.lst ((lots.filter (stuckB fs)).map dTI)), t4, .sh (.int 0), t6, t7, t8, .no, .no] with
      | none => none
      | some (R.er c) => some (R.er c)
      | some (R.ok Fl.nx ρ2) => forF false (gN 5) fourB [.int 1] ρ2
      | some (R.ok (Fl.rt r) ρ2) => some (R.ok (Fl.rt r) ρ2)) = _
    rw [g1]
    dsimp only
    rw [forF, q_gN]
    dsimp only
    show (match fourB [.sh S, .ow (.dk kvs), .sh (.lst (lots.map dTI)), .sh (.lst ((lots.filter (stuckB fs)).map dTI)), t4, .sh (.int 1), t6, t7, t8, .no, .no] with
      | none => none
      | some (R.er c) => some (R.er c)
      | some (R.ok Fl.nx ρ2) => forF false (gN 5) fourB [] ρ2
      | some (R.ok (Fl.rt r) ρ2) => some (R.ok (Fl.rt r) ρ2)) = _
    rw [g2]
    rfl
  -- the most
  obtain ⟨m, em', e6⟩ := e_most g hks
  have em2 : mostI lots = some m := by
    rw [← em']
    exact maxI_perm ((List.mergeSort_perm ks _).map _)
  have gm : gMax [.lst (lots.map fun L => D.int (L.length : Int))] = some (.sh (.int m)) := by
    show (asIs (lots.map fun L => D.int (L.length : Int))).bind (fun ns => (maxI ns).map fun m => Val.sh (.int m)) = _
    rw [show (lots.map fun L => D.int (L.length : Int)) = (lots.map fun L => (L.length : Int)).map D.int from (List.map_map (f := fun L : List Int => (L.length : Int)) (g := D.int) (l := lots)).symm, asIs_int, Option.bind_some]
    rw [show maxI (lots.map fun L => (L.length : Int)) = some m from em2]; rfl
  let ρ6 : Lf.Env := [.sh S, .ow (.dk kvs), .sh (.lst (lots.map dTI)), .sh (.lst ((lots.filter (stuckB fs)).map dTI)), t4, .sh (.int 1), t6, t7, t8, .no, .no]
  have c6 := lc_all (fi := xIt (xVar 2)) (g := gN 4) (fe := xPure gLen (yCons (xVar 4) (yNil))) (vs := [4]) (ρ := ρ6) (u := none) (dc := false) (ρ1 := ρ6)
    dTI lots (fun L => .int (L.length : Int)) (fun L => [.sh S, .ow (.dk kvs), .sh (.lst (lots.map dTI)), .sh (.lst ((lots.filter (stuckB fs)).map dTI)), .sh (dTI L), .sh (.int 1), t6, t7, t8, .no, .no]) rfl (by
      show (flatSlot (some t4) && true) = true
      rw [f4]; rfl) (fun _ _ => rfl) (fun L _ => by simp [gLen_tI]) (fun _ _ => ⟨rfl, rfl⟩)
  refine run_sh rfl ρ6 ?_
  show fB__law_right [.sh S, .no, .no, .no, .no, .no, .no, .no, .no, .no, .no] = _
  unfold fB__law_right
  rw [q_seq, s1, q_bnd]
  dsimp only
  rw [q_seq, s2, q_bnd]
  dsimp only
  rw [q_seq, s3, q_bnd]
  dsimp only
  rw [q_seq, s4, q_bnd]
  dsimp only
  rw [q_seq, s5, q_bnd]
  dsimp only
  have a1 : xLn (xCall φ_most_laid (yCons (xVar 0) (yNil))) ρ6 = some (.ok (.sh (.int m)) ρ6) := by
    simp [ρ6, S, e6]
  have a2 : xLn (xPure gMax (yCons (xLc (xIt (xVar 2)) (gN 4) (xYes) (xPure gLen (yCons (xVar 4) (yNil))) [4]) (yNil))) ρ6 = some (.ok (.sh (.int m)) ρ6) := by
    rw [q_ln, q_pure, q_yC, c6]
    simp only [q_bnd, q_unl0, q_yN, q_rdA, q_rd_ow, q_rdA0, Option.bind_some, Option.map_some, gm]
  rw [q_ret, q_xTk, q_call, q_yC, a1, q_bnd, q_yC, a2, q_bnd, q_yN, q_bnd, q_bnd, q_bnd]
  simp [e_same 6 (.int m) (.int m), bl]
end K21

set_option Elab.async false
set_option linter.all false
set_option maxRecDepth 100000
set_option maxHeartbeats 1000000
/-! k21: the pen, draws, all rising tuples. -/
namespace K21
open PySem PySem.Spec L2 Lf
theorem runIo_sh {N n : Nat} {d0 d1 d : D} {ds : List D} {fB : Ev Fl} {ρ' : Lf.Env} (h1 : ds.length + 1 = n) (h : fB (Slot.ow d0 :: envOf ds (N - 1)) = some (.ok (.rt (.sh d)) (Slot.ow d1 :: ρ'))) : runIo N n fB (d0 :: ds) = some (.ok (.sh d) d1) := by
  unfold runIo
  dsimp only
  rw [if_pos h1, h]
  rfl
def penD (c m : Int) : D := .lst [.int c, .int m]
theorem gIx_p0 (c m : Int) : gIx (penD c m) (.int 0) = some (.sh (.int c)) := rfl
theorem gIx_p1 (c m : Int) : gIx (penD c m) (.int 1) = some (.sh (.int m)) := rfl
theorem setIx_p {c m x : Int} {fv : Ev Val} {ρ : Lf.Env} (h : fv (.ow (penD c m) :: ρ) = some (.ok (.sh (.int x)) (.ow (penD c m) :: ρ))) : sSetIx (xVar 0) (xC (.int 0)) fv (.ow (penD c m) :: ρ) = some (.ok .nx (.ow (penD x m) :: ρ)) := by
  unfold sSetIx
  rw [q_xSh, h]
  rfl
theorem mod_in {a b : Int} (h : 1 ≤ b) : 0 ≤ a.fmod b ∧ a.fmod b < b := ⟨Int.fmod_nonneg_of_pos _ (by omega), Int.fmod_lt_of_pos _ (by omega)⟩
theorem gMod_i {a b : Int} (h : 1 ≤ b) : gMod (.int a) (.int b) = some (.sh (.int (a.fmod b))) := by
  show (if decide (b ≠ 0) = true then some (Val.sh (.int (a.fmod b))) else none) = _
  rw [if_pos (decide_eq_true (by omega))]
theorem gFdiv_i {a b : Int} (h : 1 ≤ b) (h2 : b ≤ 1000000) : gFdiv (.int a) (.int b) = some (.sh (.int (a.fdiv b))) := by
  show (if decide (b ≠ 0 ∧ b.natAbs < 1073741824) = true then some (Val.sh (.int (a.fdiv b))) else none) = _
  rw [if_pos (decide_eq_true (by omega))]
theorem gMul_r {a b : Int} (h : -1000000 ≤ b ∧ b ≤ 1000000) : gMul (.int a) (.int b) = some (.sh (.int (a * b))) := by
  show (if decide ((-(2 ^ 64) < a ∧ a < 2 ^ 64) ∨ (-(2 ^ 64) < b ∧ b < 2 ^ 64)) = true then some (Val.sh (.int (a * b))) else none) = _
  rw [if_pos (decide_eq_true (by omega))]
theorem gMul_l {a b : Int} (h : 0 ≤ a ∧ a < 2147483648) : gMul (.int a) (.int b) = some (.sh (.int (a * b))) := by
  show (if decide ((-(2 ^ 64) < a ∧ a < 2 ^ 64) ∨ (-(2 ^ 64) < b ∧ b < 2 ^ 64)) = true then some (Val.sh (.int (a * b))) else none) = _
  rw [if_pos (decide_eq_true (by omega))]
theorem gAdd_i (a b : Int) : gAdd (.int a) (.int b) = some (.sh (.int (a + b))) := rfl
theorem gSub_i (a b : Int) : Lf.gSub (.int a) (.int b) = some (.sh (.int (a - b))) := rfl
theorem e_draw (c m : Int) {many : Int} (h1 : 1 ≤ many) (h2 : many ≤ 1000000) : ∃ d c', φ__law_draw [penD c m, .int many] = some (.ok (.sh (.int d)) (penD c' m)) ∧ 0 ≤ d ∧ d < many := by
  by_cases hm : m = 1
  · refine ⟨c.fmod many, c.fdiv many, ?_, mod_in h1⟩
    refine runIo_sh rfl (ρ' := [.sh (.int many), .sh (.int (c.fmod many))]) ?_
    show fB__law_draw [.ow (penD c m), .sh (.int many), .no] = _
    have s1 : sSet 2 (xBin gMod (xBin gIx (xVar 0) (xC (.int 0))) (xVar 1)) [.ow (penD c m), .sh (.int many), .no] = some (.ok .nx [.ow (penD c m), .sh (.int many), .sh (.int (c.fmod many))]) := by
      simp [gIx_p0, gMod_i h1]
    have s2 := setIx_p (c := c) (m := m) (x := c.fdiv many) (fv := xBin gFdiv (xBin gIx (xVar 0) (xC (.int 0))) (xVar 1)) (ρ := [.sh (.int many), .sh (.int (c.fmod many))]) (by
      simp [gIx_p0, gFdiv_i h1 h2])
    unfold fB__law_draw
    rw [q_seq, q_if]
    have c1 : xCmpT gEq (xBin gIx (xVar 0) (xC (.int 1))) (xC (.int 1)) [.ow (penD c m), .sh (.int many), .no] = some (.ok true [.ow (penD c m), .sh (.int many), .no]) := by
      simp [gIx_p1, gEq_int, hm]
    rw [c1, q_bnd, if_pos rfl, q_seq, s1, q_bnd]
    dsimp only
    rw [q_seq, s2, q_bnd]
    rfl
  · let x : Int := (c.fmod 2147483629 * 48271 + 11).fmod 2147483629
    have hx : 0 ≤ x ∧ x < 2147483629 := mod_in (by omega)
    refine ⟨(((x * x + 40692 * x).fmod 2147483647).fdiv 8).fmod many, x, ?_, mod_in h1⟩
    refine runIo_sh rfl (ρ' := [.sh (.int many), .no]) ?_
    show fB__law_draw [.ow (penD c m), .sh (.int many), .no] = _
    have c1 : xCmpT gEq (xBin gIx (xVar 0) (xC (.int 1))) (xC (.int 1)) [.ow (penD c m), .sh (.int many), .no] = some (.ok false [.ow (penD c m), .sh (.int many), .no]) := by
      simp [gIx_p1, gEq_int, hm]
    have s2 := setIx_p (c := c) (m := m) (x := x) (fv := xBin gMod (xBin gAdd (xBin gMul (xBin gMod (xBin gIx (xVar 0) (xC (.int 0))) (xC (.int 2147483629))) (xC (.int 48271))) (xC (.int 11))) (xC (.int 2147483629))) (ρ := [.sh (.int many), .no]) (by
      simp [gIx_p0, gMod_i (a := c) (b := 2147483629) (by omega), gMul_r (b := 48271) (by omega), gAdd_i, gMod_i (b := 2147483629) (by omega), x])
    unfold fB__law_draw
    rw [q_seq, q_if, c1, q_bnd, if_neg (by simp), q_skip, q_bnd]
    dsimp only
    rw [q_seq, s2, q_bnd]
    dsimp only
    simp [gIx_p0, gMul_l (a := x) (b := x) (by omega), gMul_l (a := 40692) (b := x) (by omega), gAdd_i, gMod_i (b := 2147483647) (by omega), gFdiv_i (b := 8) (by omega) (by omega), gMod_i h1]
/-! ### all rising tuples -/
def allS (k : Int) (fd : List (List Int)) (p : Int) : List (List Int) := fd ++ (fd.filter fun o => decide ((o.length : Int) < k)).map fun o => o ++ [p]
def allF (n : Nat) (k : Int) : List (List Int) := (numsN n).foldl (allS k) [[]]
def allL (n : Nat) (k : Int) : List (List Int) := sortT ((allF n k).filter fun o => (o.length : Int) == k)
theorem numsN_succ (n : Nat) : numsN (n + 1) = numsN n ++ [(n : Int)] := by
  unfold numsN
  rw [List.range_succ, List.map_append]; rfl
theorem allF_succ (n : Nat) (k : Int) : allF (n + 1) k = allS k (allF n k) n := by
  unfold allF
  rw [numsN_succ, List.foldl_append]; rfl
/-- a face: rising, its points in range -/
def Rg (n : Int) (f : List Int) : Prop := f.Pairwise (· < ·) ∧ ∀ p ∈ f, 0 ≤ p ∧ p ≤ n - 1
theorem pw_last {f : List Int} {p : Int} : (f ++ [p]).Pairwise (· < ·) ↔ f.Pairwise (· < ·) ∧ ∀ q ∈ f, q < p := by
  rw [List.pairwise_append]
  simp
theorem allF_mem (k : Int) (hk : 0 ≤ k) : ∀ (n : Nat) (f : List Int), f ∈ allF n k ↔ Rg n f ∧ (f.length : Int) ≤ k
  | 0, f => by
    show f ∈ [[]] ↔ _
    rw [List.mem_singleton]
    constructor
    · rintro rfl
      exact ⟨⟨.nil, fun p hp => by cases hp⟩, hk⟩
    · rintro ⟨⟨_, h⟩, _⟩
      cases f with
      | nil => rfl
      | cons p f => have := h p List.mem_cons_self; omega
  | n + 1, f => by
    rw [allF_succ, allS, List.mem_append]
    constructor
    · rintro (h | h)
      · obtain ⟨⟨h1, h2⟩, h3⟩ := (allF_mem k hk n f).mp h
        exact ⟨⟨h1, fun p hp => by have := h2 p hp; omega⟩, h3⟩
      · obtain ⟨o, ho, rfl⟩ := List.mem_map.mp h
        obtain ⟨ho, hl⟩ := List.mem_filter.mp ho
        obtain ⟨⟨h1, h2⟩, h3⟩ := (allF_mem k hk n o).mp ho
        have hl : (o.length : Int) < k := by simpa using hl
        refine ⟨⟨pw_last.mpr ⟨h1, fun q hq => by have := h2 q hq; omega⟩, fun p hp => ?_⟩, by rw [List.length_append, List.length_singleton]; omega⟩
        rcases List.mem_append.mp hp with hp | hp
        · have := h2 p hp; omega
        · rw [List.mem_singleton.mp hp]; omega
    · rintro ⟨⟨h1, h2⟩, h3⟩
      by_cases hn : (n : Int) ∈ f
      · right
        -- it stands last
        rcases List.eq_nil_or_concat f with rfl | ⟨o, p, rfl⟩
        · cases hn
        · rw [List.concat_eq_append] at *
          obtain ⟨g1, g2⟩ := pw_last.mp h1
          have hp := h2 p (List.mem_append.mpr (.inr (List.mem_singleton.mpr rfl)))
          have e : p = n := by
            rcases List.mem_append.mp hn with z | z
            · have := g2 _ z; omega
            · exact (List.mem_singleton.mp z).symm
          subst e
          rw [List.length_append, List.length_singleton] at h3
          refine List.mem_map.mpr ⟨o, List.mem_filter.mpr ⟨(allF_mem k hk n o).mpr ⟨⟨g1, fun q hq => ?_⟩, by omega⟩, by simp; omega⟩, rfl⟩
          have := h2 q (List.mem_append.mpr (.inl hq))
          have := g2 q hq
          omega
      · left
        refine (allF_mem k hk n f).mpr ⟨⟨h1, fun p hp => ?_⟩, h3⟩
        have := h2 p hp
        by_cases e : p = n
        · subst e; exact absurd hp hn
        · omega
theorem allF_nd (k : Int) (hk : 0 ≤ k) : ∀ n : Nat, (allF n k).Nodup
  | 0 => by
    show ([[]] : List (List Int)).Nodup
    simp
  | n + 1 => by
    rw [allF_succ, allS]
    refine List.nodup_append.mpr ⟨allF_nd k hk n, ?_, fun a ha b hb e => ?_⟩
    · refine List.pairwise_map.mpr (((allF_nd k hk n).sublist List.filter_sublist).imp fun {x y} hne e => hne (List.append_cancel_right e))
    · subst e
      obtain ⟨o, _, rfl⟩ := List.mem_map.mp hb
      have := ((allF_mem k hk n _).mp ha).1.2 n (List.mem_append.mpr (.inr (List.mem_singleton.mpr rfl)))
      omega
theorem allF_len (k : Int) : ∀ n : Nat, (allF n k).length ≤ 2 ^ n
  | 0 => by
    show ([[]] : List (List Int)).length ≤ 1
    simp
  | n + 1 => by
    rw [allF_succ, allS, List.length_append, List.length_map]
    have := List.length_filter_le (fun o : List Int => decide ((o.length : Int) < k)) (allF n k)
    have := allF_len k n
    rw [Nat.pow_succ]
    omega
theorem sortT_mem {ks : List (List Int)} {q : List Int} : q ∈ sortT ks ↔ q ∈ ks := (List.mergeSort_perm ks _).mem_iff
theorem sortT_so (ks : List (List Int)) : (sortT ks).Pairwise fun a b => HT.lexLt b a = false := by
  have := List.pairwise_mergeSort (le := leT) (fun a b c h1 h2 => by
    unfold leT at *
    have h1 : HT.lexLt b a = false := by simpa using h1
    have h2 : HT.lexLt c b = false := by simpa using h2
    simpa using lexLe_tr a b c h1 h2) (fun a b => by
    unfold leT
    cases h : HT.lexLt b a with
    | false => rfl
    | true => rw [lexLt_asym b a h]; rfl) ks
  exact this.imp fun h => by unfold leT at h; simpa using h
theorem sortT_nd {ks : List (List Int)} (h : ks.Nodup) : (sortT ks).Nodup := (List.mergeSort_perm ks _).nodup_iff.mpr h
theorem sortT_up {ks : List (List Int)} (h : ks.Nodup) : (sortT ks).Pairwise fun a b => HT.lexLt a b = true := by
  refine (sortT_so ks).imp₂ (S := (· ≠ ·)) (fun a b h1 h2 => ?_) (sortT_nd h)
  cases q : HT.lexLt a b with
  | true => rfl
  | false => exact absurd (lexLe_anti a b h1 q) h2
theorem allL_mem {n : Nat} {k : Int} (hk : 0 ≤ k) {f : List Int} : f ∈ allL n k ↔ Rg n f ∧ (f.length : Int) = k := by
  unfold allL
  rw [sortT_mem, List.mem_filter, allF_mem k hk]
  constructor
  · rintro ⟨⟨h1, h2⟩, h3⟩
    exact ⟨h1, by simpa using h3⟩
  · rintro ⟨h1, h2⟩
    exact ⟨⟨h1, by omega⟩, by simpa using h2⟩
theorem allL_nd {n : Nat} {k : Int} (hk : 0 ≤ k) : (allL n k).Nodup := sortT_nd ((allF_nd k hk n).sublist List.filter_sublist)
theorem allL_up {n : Nat} {k : Int} (hk : 0 ≤ k) : (allL n k).Pairwise fun a b => HT.lexLt a b = true := sortT_up ((allF_nd k hk n).sublist List.filter_sublist)
theorem allL_len {n : Nat} {k : Int} : (allL n k).length ≤ 2 ^ n := by
  unfold allL
  rw [sortT_len]
  exact Nat.le_trans (List.length_filter_le _ _) (allF_len k n)
theorem allL_ne {n : Nat} {k : Int} (hk : 0 ≤ k) (h : k ≤ n) : allL n k ≠ [] := by
  have : numsN k.toNat ∈ allL n k := (allL_mem hk).mpr ⟨⟨numsN_pw _, fun p hp => by have := numsN_mem.mp hp; omega⟩, by
    unfold numsN
    rw [List.length_map, List.length_range]
    omega⟩
  exact List.ne_nil_of_mem this
theorem gAdd_lT {a b : List (List Int)} (h : a.length + b.length ≤ sizeLine) : gAdd (.lst (a.map dTI)) (.lst (b.map dTI)) = some (.ow (.lst ((a ++ b).map dTI))) := by
  show (if (a.map dTI).length + (b.map dTI).length ≤ sizeLine then some (Val.ow (.lst (a.map dTI ++ b.map dTI))) else none) = _
  rw [List.length_map, List.length_map, if_pos h, List.map_append]
theorem gAdd_tI {a b : List Int} (h : a.length + b.length ≤ sizeLine) : gAdd (dTI a) (dTI b) = some (.sh (dTI (a ++ b))) := by
  show (if (a.map D.int).length + (b.map D.int).length ≤ sizeLine then some (Val.sh (.tup (a.map D.int ++ b.map D.int))) else none) = _
  rw [List.length_map, List.length_map, if_pos h, ← List.map_append]
  rfl
theorem e_all {n : Nat} (hn : n ≤ 8) {k : Int} (hk : 0 ≤ k) : φ__law_all [.int n, .int k] = some (.ok (.ow (.lst ((allL n k).map dTI))) .non) := by
  have sz := sz9
  let I : List Int → Lf.Env → Prop := fun dn ρ => ∃ t3 : Slot, ρ = [.sh (.int n), .sh (.int k), .ow (.lst ((allF dn.length k).map dTI)), t3, .no]
  obtain ⟨ρ', hf, t3, er⟩ := for_inv (dc := false) (g := gN 3) (fb := sSet 2 (xBin gAdd (xVar 2) (xLc (xIt (xVar 2)) (gN 4) (xCmpT gLt (xPure gLen (yCons (xVar 4) (yNil))) (xVar 1)) (xBin gAdd (xVar 4) (xTup (xCons (xShK (xVar 3)) (xNil)))) [4])))
    D.int I (numsN n) [] [.sh (.int n), .sh (.int k), .ow (.lst [dTI []]), .no, .no] rfl ⟨.no, rfl⟩ fun dn x rr ρ er ⟨t3, e⟩ => by
      subst e
      obtain ⟨ex, hi⟩ := numsN_at (show numsN n = dn ++ x :: rr from er)
      subst ex
      have hlen := allF_len k dn.length
      have h256 : 2 ^ dn.length ≤ 2 ^ 8 := Nat.pow_le_pow_right (by omega) (by omega)
      have c1 := lc_map (fi := xIt (xVar 2)) (g := gN 4) (ct := xCmpT gLt (xPure gLen (yCons (xVar 4) (yNil))) (xVar 1)) (fe := xBin gAdd (xVar 4) (xTup (xCons (xShK (xVar 3)) (xNil)))) (vs := [4]) (ρ := [.sh (.int n), .sh (.int k), .ow (.lst ((allF dn.length k).map dTI)), .sh (.int dn.length), .no]) (u := some 2) (dc := false) (ρ1 := [.sh (.int n), .sh (.int k), .lk (.lst ((allF dn.length k).map dTI)), .sh (.int dn.length), .no])
        dTI (allF dn.length k) (fun o => decide ((o.length : Int) < k)) (fun o => dTI (o ++ [(dn.length : Int)])) (fun o => [.sh (.int n), .sh (.int k), .lk (.lst ((allF dn.length k).map dTI)), .sh (.int dn.length), .sh (dTI o)]) rfl rfl (fun _ _ => rfl) (fun o _ => by simp [gLen_tI, gLt]) (fun o ho _ => by
          have hl : o.length + [(dn.length : Int)].length ≤ sizeLine := by
            have h1 := ((allF_mem k hk dn.length o).mp ho).1
            have := List.Nodup.length_le_of_subset (pw_nodup h1.1) (l₂ := numsN dn.length) fun q hq => numsN_mem.mpr (by have := h1.2 q hq; omega)
            unfold numsN at this
            rw [List.length_map, List.length_range] at this
            rw [List.length_singleton]
            omega
          have e1 : xBin gAdd (xVar 4) (xTup (xCons (xShK (xVar 3)) (xNil))) [.sh (.int n), .sh (.int k), .lk (.lst ((allF dn.length k).map dTI)), .sh (.int dn.length), .sh (dTI o)] = (gAdd (dTI o) (dTI [(dn.length : Int)])).map fun r => .ok r [.sh (.int n), .sh (.int k), .lk (.lst ((allF dn.length k).map dTI)), .sh (.int dn.length), .sh (dTI o)] := rfl
          rw [q_xSh, e1, gAdd_tI hl]
          rfl) (fun _ _ => ⟨rfl, rfl⟩)
      refine ⟨_, [.sh (.int n), .sh (.int k), .ow (.lst ((allF (dn ++ [(dn.length : Int)]).length k).map dTI)), .sh (.int dn.length), .no], rfl, ?_, .sh (.int dn.length), rfl⟩
      · show sSet 2 _ [.sh (.int n), .sh (.int k), .ow (.lst ((allF dn.length k).map dTI)), .sh (.int dn.length), .no] = some (.ok .nx [.sh (.int n), .sh (.int k), .ow (.lst ((allF (dn ++ [(dn.length : Int)]).length k).map dTI)), .sh (.int dn.length), .no])
        have e2 : (((allF dn.length k).filter fun o => decide ((o.length : Int) < k)).map fun o => dTI (o ++ [(dn.length : Int)])) = (((allF dn.length k).filter fun o => decide ((o.length : Int) < k)).map fun o => o ++ [(dn.length : Int)]).map dTI := by
          rw [List.map_map]; rfl
        rw [e2] at c1
        rw [q_set, q_xTk, q_bin, q_var]
        dsimp only [List.getElem?_cons_succ, List.getElem?_cons_zero]
        rw [q_bnd, c1, q_bnd]
        have hl2 : (allF dn.length k).length + (((allF dn.length k).filter fun o => decide ((o.length : Int) < k)).map fun o => o ++ [(dn.length : Int)]).length ≤ sizeLine := by
          rw [List.length_map]
          have := List.length_filter_le (fun o : List Int => decide ((o.length : Int) < k)) (allF dn.length k)
          omega
        rw [List.length_append, List.length_singleton, allF_succ, allS]
        show bnd (bnd (fin2 gAdd (.bw 2) (.ow _) [.sh (.int n), .sh (.int k), .ow (.lst ((allF dn.length k).map dTI)), .sh (.int dn.length), .no]) _) _ = _
        simp only [q_fin2, q_rd_bw, List.getElem?_cons_succ, List.getElem?_cons_zero, q_rd_ow, Option.bind_some, gAdd_lT hl2, Option.map_some, q_bnd, q_tk_ow, q_sl_ow, List.set_cons_succ, List.set_cons_zero]
  subst er
  have hl : (numsN n).length = n := by
    unfold numsN
    rw [List.length_map, List.length_range]
  rw [List.nil_append, hl] at hf
  have hi : xRng (yCons (xVar 0) (yNil)) [.sh (.int n), .sh (.int k), .ow (.lst [dTI []]), .no, .no] = some (.ok ⟨(numsN n).map .int, none, false⟩ [.sh (.int n), .sh (.int k), .ow (.lst [dTI []]), .no, .no]) := by
    have := q_rng (fs := yCons (xVar 0) (yNil)) (ρ := [.sh (.int n), .sh (.int k), .ow (.lst [dTI []]), .no, .no]) (ρ1 := [.sh (.int n), .sh (.int k), .ow (.lst [dTI []]), .no, .no]) (r := .sh (.int n)) (j := n) (by simp) rfl (by omega)
    rw [Int.toNat_natCast] at this
    exact this
  have c2 := lc_map (fi := xIt (xVar 2)) (g := gN 4) (ct := xCmpT gEq (xPure gLen (yCons (xVar 4) (yNil))) (xVar 1)) (fe := xVar 4) (vs := [4]) (ρ := [.sh (.int n), .sh (.int k), .ow (.lst ((allF n k).map dTI)), t3, .no]) (u := some 2) (dc := false) (ρ1 := [.sh (.int n), .sh (.int k), .lk (.lst ((allF n k).map dTI)), t3, .no])
    dTI (allF n k) (fun o => (o.length : Int) == k) dTI (fun o => [.sh (.int n), .sh (.int k), .lk (.lst ((allF n k).map dTI)), t3, .sh (dTI o)]) rfl rfl (fun _ _ => rfl) (fun o _ => by simp [gLen_tI, gEq_int]) (fun o _ _ => by simp) (fun _ _ => ⟨rfl, rfl⟩)
  have gs : gSort [.lst (((allF n k).filter fun o => (o.length : Int) == k).map dTI)] = some (.ow (.lst ((allL n k).map dTI))) := by
    show (sortL _).map (fun es => Val.ow (.lst es)) = _
    rw [sortL_tI]; rfl
  refine run_ow rfl [.sh (.int n), .sh (.int k), .ow (.lst ((allF n k).map dTI)), t3, .no] ?_
  show fB__law_all [.sh (.int n), .sh (.int k), .no, .no, .no] = _
  unfold fB__law_all
  have e1 : sSet 2 (xLst (xCons (xSh (xTup (xNil))) (xNil))) [.sh (.int n), .sh (.int k), .no, .no, .no] = some (.ok .nx [.sh (.int n), .sh (.int k), .ow (.lst [dTI []]), .no, .no]) := rfl
  rw [q_seq, e1, q_bnd]
  dsimp only
  rw [q_seq, for_eq hi hf, q_bnd]
  show sRet _ [.sh (.int n), .sh (.int k), .ow (.lst ((allF n k).map dTI)), t3, .no] = _
  simp only [q_ret, q_xTk, q_pure, q_yC, q_yN]
  rw [c2]
  simp only [q_bnd, q_rdA, q_rd_ow, q_rdA0, Option.bind_some, Option.map_some, gs, q_tk_ow]
  rfl
end K21

set_option Elab.async false
set_option linter.all false
set_option maxRecDepth 100000
set_option maxHeartbeats 1000000
/-! k21: drawn stacks. -/
namespace K21
open PySem PySem.Spec L2 Lf
def FG (n k : Int) (f : List Int) : Prop := Rg n f ∧ (f.length : Int) = k
theorem q_call_eq {φ : Fn} {fs : Ev (List Val)} {ρ ρ1 : Lf.Env} {rs : List Val} {ds : List D} {r : Val} {io : D} (h1 : fs ρ = some (.ok rs ρ1)) (h2 : argD ρ1 rs = some ds) (h3 : φ ds = some (.ok r io)) (h4 : okRes (rs.any isBw) r = true) : xCall φ fs ρ = some (.ok r ρ1) := by
  rw [q_call, h1, q_bnd, h2, Option.bind_some, h3]
  dsimp only
  rw [if_pos h4]
theorem q_callIo1 {φ : Fn} {i : Nat} {fs : Ev (List Val)} {ρ ρ1 : Lf.Env} {d0 d1 x : D} {r : Val} (h1 : fs ρ = some (.ok [.bw i, .sh x] ρ1)) (h2 : ρ1[i]? = some (.ow d0)) (h5 : φ [d0, x] = some (.ok r d1)) (h6 : okRes false r = true) (h7 : okRes false (.ow d1) = true) :
    xCallIo φ i fs ρ = some (.ok r (ρ1.set i (.ow d1))) := by
  unfold xCallIo
  rw [h1, q_bnd]
  dsimp only
  rw [if_pos rfl, h2]
  simp only [List.all_cons, List.all_nil, Bool.and_true, if_true, q_ar1, q_ar0, Option.map_some, Option.bind_some, h5, List.any_cons, List.any_nil, q_bw0, Bool.or_false, h6, h7, Bool.and_self]
theorem q_draw {ρt : Lf.Env} {fe : Ev Val} {c m many : Int} (h : fe (.ow (penD c m) :: ρt) = some (.ok (.sh (.int many)) (.ow (penD c m) :: ρt))) (h1 : 1 ≤ many) (h2 : many ≤ 1000000) :
    ∃ d c', xCallIo φ__law_draw 0 (yCons (xVar 0) (yCons fe (yNil))) (.ow (penD c m) :: ρt) = some (.ok (.sh (.int d)) (.ow (penD c' m) :: ρt)) ∧ 0 ≤ d ∧ d < many := by
  obtain ⟨d, c', e, b⟩ := e_draw c m h1 h2
  refine ⟨d, c', ?_, b⟩
  have ea : (yCons (xVar 0) (yCons fe (yNil))) (.ow (penD c m) :: ρt) = some (.ok [.bw 0, .sh (.int many)] (.ow (penD c m) :: ρt)) := by
    rw [q_yC, q_var]
    dsimp only [List.getElem?_cons_zero]
    rw [q_bnd, q_yC, h, q_bnd, q_yN, q_bnd]
    rfl
  exact q_callIo1 (ρ1 := .ow (penD c m) :: ρt) ea rfl e rfl rfl
theorem q_binIx {fa fb : Ev Val} {ρ ρ1 ρ2 : Lf.Env} {r : Val} {d : Int} {D0 x : D} (h1 : fa ρ = some (.ok r ρ1)) (h2 : fb ρ1 = some (.ok (.sh (.int d)) ρ2)) (h3 : rd ρ2 r = some D0) (h4 : gIx D0 (.int d) = some (.sh x)) : xBin gIx fa fb ρ = some (.ok (.sh x) ρ2) := by
  rw [q_bin, h1, q_bnd, h2, q_bnd, q_fin2, h3]
  simp [h4]
theorem pickL {α : Type} {inj : α → D} {xs : List α} {d : Int} (h0 : 0 ≤ d) (h1 : d < xs.length) : ∃ x ∈ xs, gIx (.lst (xs.map inj)) (.int d) = some (.sh (inj x)) := by
  obtain ⟨j, rfl⟩ := Int.eq_ofNat_of_zero_le h0
  have hj : j < xs.length := by omega
  refine ⟨xs[j], List.getElem_mem hj, ?_⟩
  unfold gIx
  dsimp only
  rw [atI_nat (x := inj xs[j]) (by rw [List.getElem?_map, List.getElem?_eq_getElem hj]; rfl)]
  rfl
theorem pickT {α : Type} {inj : α → D} {xs : List α} {d : Int} (h0 : 0 ≤ d) (h1 : d < xs.length) : ∃ x ∈ xs, gIx (.tup (xs.map inj)) (.int d) = some (.sh (inj x)) := by
  obtain ⟨j, rfl⟩ := Int.eq_ofNat_of_zero_le h0
  have hj : j < xs.length := by omega
  refine ⟨xs[j], List.getElem_mem hj, ?_⟩
  unfold gIx
  dsimp only
  rw [atI_nat (x := inj xs[j]) (by rw [List.getElem?_map, List.getElem?_eq_getElem hj]; rfl)]
  rfl
theorem pick8 {d : Int} (h0 : 0 ≤ d) (h1 : d < 8) : ∃ n : Nat, gIx (.lst [.int 5, .int 4, .int 6, .int 3, .int 7, .int 8, .int 2, .int 1]) (.int d) = some (.sh (.int n)) ∧ 1 ≤ n ∧ n ≤ 8 := by
  have : d = 0 ∨ d = 1 ∨ d = 2 ∨ d = 3 ∨ d = 4 ∨ d = 5 ∨ d = 6 ∨ d = 7 := by omega
  rcases this with rfl | rfl | rfl | rfl | rfl | rfl | rfl | rfl
  · exact ⟨5, rfl, by omega, by omega⟩
  · exact ⟨4, rfl, by omega, by omega⟩
  · exact ⟨6, rfl, by omega, by omega⟩
  · exact ⟨3, rfl, by omega, by omega⟩
  · exact ⟨7, rfl, by omega, by omega⟩
  · exact ⟨8, rfl, by omega, by omega⟩
  · exact ⟨2, rfl, by omega, by omega⟩
  · exact ⟨1, rfl, by omega, by omega⟩
theorem pick7 {d : Int} (h0 : 0 ≤ d) (h1 : d < 7) : ∃ j : Int, gIx (.lst [.int 2, .int 3, .int 1, .int 4, .int 3, .int 2, .int 0]) (.int d) = some (.sh (.int j)) ∧ 0 ≤ j ∧ j ≤ 4 := by
  have : d = 0 ∨ d = 1 ∨ d = 2 ∨ d = 3 ∨ d = 4 ∨ d = 5 ∨ d = 6 := by omega
  rcases this with rfl | rfl | rfl | rfl | rfl | rfl | rfl
  · exact ⟨2, rfl, by omega, by omega⟩
  · exact ⟨3, rfl, by omega, by omega⟩
  · exact ⟨1, rfl, by omega, by omega⟩
  · exact ⟨4, rfl, by omega, by omega⟩
  · exact ⟨3, rfl, by omega, by omega⟩
  · exact ⟨2, rfl, by omega, by omega⟩
  · exact ⟨0, rfl, by omega, by omega⟩
theorem sortI_mem {ns : List Int} {i : Int} : i ∈ sortI ns ↔ i ∈ ns := (List.mergeSort_perm ns _).mem_iff
theorem sortI_up {ns : List Int} (h : ns.Nodup) : (sortI ns).Pairwise (· < ·) := by
  have := List.pairwise_mergeSort (le := fun a b : Int => decide (a ≤ b)) (fun a b c h1 h2 => by simp at *; omega) (fun a b => by simp; omega) ns
  refine this.imp₂ (S := (· ≠ ·)) (fun a b h1 h2 => ?_) ((List.mergeSort_perm ns _).nodup_iff.mpr h)
  have h1 : a ≤ b := by simpa using h1
  omega
theorem rest_len {f : List Int} (h : f.Nodup) {p : Int} (hp : p ∈ f) : ((rest f p).length : Int) = f.length - 1 := by
  have e : rest f p = f.erase p := by
    rw [h.erase_eq_filter]
    unfold rest
    refine List.filter_congr fun q _ => ?_
    by_cases e : q = p
    · simp [e]
    · simp [e, bne]
  have := List.length_erase_of_mem hp
  have := List.length_pos_of_mem hp
  rw [e]
  omega
theorem new_face {n : Nat} {k : Int} {f : List Int} {p q : Int} (h : FG n k f) (hp : p ∈ f) (hq : q ∈ (numsN n).filter fun x => !decide (x ∈ f)) : FG n k (sortI (rest f p ++ [q])) := by
  obtain ⟨⟨h1, h2⟩, h3⟩ := h
  obtain ⟨hq1, hq2⟩ := List.mem_filter.mp hq
  have hq1 := numsN_mem.mp hq1
  have hq2 : ¬ q ∈ f := by simpa using hq2
  have nd : (rest f p ++ [q]).Nodup := List.nodup_append.mpr ⟨(pw_nodup h1).sublist List.filter_sublist, by simp, fun a ha b hb e => by
    rw [List.mem_singleton.mp hb] at e
    exact hq2 (by rw [← e]; exact (List.mem_filter.mp ha).1)⟩
  refine ⟨⟨sortI_up nd, fun x hx => ?_⟩, ?_⟩
  · rcases List.mem_append.mp (sortI_mem.mp hx) with hx | hx
    · exact h2 x (List.mem_filter.mp hx).1
    · rw [List.mem_singleton.mp hx]; omega
  · have := rest_len (pw_nodup h1) hp
    rw [sortI_len, List.length_append, List.length_singleton]
    omega
theorem others_len {n : Nat} {k : Int} {f : List Int} (h : FG n k f) : (((numsN n).filter fun x => !decide (x ∈ f)).length : Int) = n - k := by
  obtain ⟨⟨h1, h2⟩, h3⟩ := h
  have e := List.length_eq_countP_add_countP (fun p => decide (p ∈ f)) (l := numsN n)
  rw [List.countP_eq_length_filter, List.countP_eq_length_filter] at e
  have e1 : (numsN n).filter (fun p => decide (p ∈ f)) = f := rise_eq ((numsN_pw n).sublist List.filter_sublist) h1 fun i => by
    rw [List.mem_filter, numsN_mem]
    constructor
    · rintro ⟨_, h⟩
      simpa using h
    · intro h
      have := h2 i h
      exact ⟨by omega, by simpa using h⟩
  have e2 : ((numsN n).filter fun x => !decide (x ∈ f)) = (numsN n).filter fun a => decide (¬ decide (a ∈ f) = true) := List.filter_congr fun x _ => by simp
  have e3 : (numsN n).length = n := by
    unfold numsN
    rw [List.length_map, List.length_range]
  rw [e1, ← e2] at e
  omega
theorem dd_len : ∀ ks : List (List Int), (dd ks).length ≤ ks.length
  | [] => Nat.le_refl _
  | k :: ks => by
    unfold dd
    have := dd_len ks
    split
    · rw [List.length_cons]; omega
    · rw [List.length_cons, List.length_cons]; omega
theorem allL_k1 {k : Nat} (h : k ≤ 4) : (allL (k + 1) k).length = k + 1 := by
  unfold allL
  rw [sortT_len]
  have : k = 0 ∨ k = 1 ∨ k = 2 ∨ k = 3 ∨ k = 4 := by omega
  rcases this with rfl | rfl | rfl | rfl | rfl <;> decide
theorem gTuple_l (ds : List D) : gTuple [.lst ds] = some (.sh (.tup ds)) := rfl
theorem gSort_ints (ns : List Int) : gSort [.lst (ns.map .int)] = some (.ow (.lst ((sortI ns).map .int))) := by
  show (sortL _).map (fun es => Val.ow (.lst es)) = _
  rw [sortL_int]; rfl
theorem gAdd_lI {a b : List Int} (h : a.length + b.length ≤ sizeLine) : gAdd (.lst (a.map .int)) (.lst (b.map .int)) = some (.ow (.lst ((a ++ b).map .int))) := by
  show (if (a.map D.int).length + (b.map D.int).length ≤ sizeLine then some (Val.ow (.lst (a.map D.int ++ b.map D.int))) else none) = _
  rw [List.length_map, List.length_map, if_pos h, List.map_append]
theorem gLen_lT (ks : List (List Int)) : gLen [.lst (ks.map dTI)] = some (.sh (.int ks.length)) := by
  show some (Val.sh (.int ((ks.map dTI).length : Nat))) = _
  rw [List.length_map]
abbrev growB : Ev Fl := sSeq (sSet 8 (xBin gIx (xVar 6) (xCallIo φ__law_draw 0 (yCons (xVar 0) (yCons (xLn (xPure gLen (yCons (xVar 6) (yNil)))) (yNil)))))) (sIf (xOr (xCmpT gEq (xVar 2) (xC (.int 0))) (xOr (xCmpT gEq (xVar 4) (xC (.int 0))) (xCmpT gEq (xVar 4) (xVar 3)))) (sDo (xMutS isL mAppend (xVar 6) (xCons (xSh (xBin gIx (xVar 5) (xCallIo φ__law_draw 0 (yCons (xVar 0) (yCons (xLn (xPure gLen (yCons (xVar 5) (yNil)))) (yNil)))))) (xNil)))) (sSeq (sSet 9 (xBin gIx (xVar 8) (xCallIo φ__law_draw 0 (yCons (xVar 0) (yCons (xVar 4) (yNil)))))) (sSeq (sSet 10 (xLc (xRng (yCons (xVar 3) (yNil))) (gN 13) (xCmpT gNin (xVar 13) (xVar 8)) (xVar 13) [13])) (sSeq (sSet 11 (xBin gIx (xVar 10) (xCallIo φ__law_draw 0 (yCons (xVar 0) (yCons (xLn (xBin Lf.gSub (xVar 3) (xVar 4))) (yNil)))))) (sSeq (sSet 12 (xLc (xIt (xVar 8)) (gN 13) (xCmpT gNe (xVar 13) (xVar 9)) (xVar 13) [13])) (sDo (xMutS isL mAppend (xVar 6) (xCons (xSh (xPure gTuple (yCons (xPure gSort (yCons (xBin gAdd (xVar 12) (xLst (xCons (xShK (xVar 11)) (xNil)))) (yNil))) (yNil)))) (xNil)))))))))
/-- an append whose item is reckoned first -/
theorem q_appendE {i : Nat} {ρ ρ1 : Lf.Env} {fd : Ev (List D)} {ds ds0 : List D} {x : D} (h0 : ρ[i]? = some (Slot.ow (.lst ds0))) (h1 : ρ1[i]? = some (Slot.ow (.lst ds))) (h2 : fd ρ = some (.ok [x] ρ1)) (h3 : ds.length < sizeLine) : xMutS isL mAppend (xVar i) fd ρ = some (.ok (.sh .non) (ρ1.set i (.ow (.lst (ds ++ [x]))))) := by
  have e1 : xVar i ρ = some (.ok (.bw i) ρ) := by rw [q_var, h0]
  have e2 : ownAt ρ (.bw i) = some (i, .lst ds0) := by unfold ownAt; dsimp only; rw [h0]
  have e3 : ownAt ρ1 (.bw i) = some (i, .lst ds) := by unfold ownAt; dsimp only; rw [h1]
  unfold xMutS
  rw [e1, q_bnd, e2]
  dsimp only
  rw [if_pos (show isL (.lst ds0) = true from rfl), h2, q_bnd, e3]
  dsimp only
  unfold mAppend
  dsimp only
  rw [if_pos h3]; rfl
theorem q_xC1 {ρ ρ1 : Lf.Env} {e : Ev Val} {d : D} (h : e ρ = some (.ok (.sh d) ρ1)) : xCons (xSh e) (xNil) ρ = some (.ok [d] ρ1) := by
  unfold xCons
  rw [q_xSh, h]
  rfl
theorem e_grow {c m most way k : Int} {n : Nat} {ev fs : List (List Int)} {t7 t8 t9 t10 t11 t12 : Slot} (hk0 : 0 ≤ k) (hk : k ≤ n) (hn : n ≤ 8) (hev : ev ≠ []) (hevl : ev.length ≤ 256) (hevf : ∀ f ∈ ev, FG n k f) (hfs : fs ≠ []) (hfl : fs.length ≤ 100) (hff : ∀ f ∈ fs, FG n k f) :
    ∃ (c' : Int) (f' : List Int) (u8 u9 u10 u11 u12 : Slot), growB [.ow (penD c m), .sh (.int most), .sh (.int way), .sh (.int n), .sh (.int k), .ow (.lst (ev.map dTI)), .ow (.lst (fs.map dTI)), t7, t8, t9, t10, t11, t12, .no] =
      some (.ok .nx [.ow (penD c' m), .sh (.int most), .sh (.int way), .sh (.int n), .sh (.int k), .ow (.lst (ev.map dTI)), .ow (.lst ((fs ++ [f']).map dTI)), t7, u8, u9, u10, u11, u12, .no]) ∧ FG n k f' := by
  have sz := sz9
  have pos : ∀ {l : List (List Int)}, l ≠ [] → 1 ≤ l.length := fun {l} h => List.length_pos_iff.mpr h
  have := pos hev
  have := pos hfs
  obtain ⟨d1, c1, e1, a1, b1⟩ := q_draw (c := c) (m := m) (fe := xLn (xPure gLen (yCons (xVar 6) (yNil)))) (many := fs.length) (ρt := [.sh (.int most), .sh (.int way), .sh (.int n), .sh (.int k), .ow (.lst (ev.map dTI)), .ow (.lst (fs.map dTI)), t7, t8, t9, t10, t11, t12, .no]) (by
    simp [gLen_lT, -List.length_map]) (by omega) (by omega)
  obtain ⟨f, hf, p1⟩ := pickL (inj := dTI) (xs := fs) a1 b1
  have s1 : sSet 8 (xBin gIx (xVar 6) (xCallIo φ__law_draw 0 (yCons (xVar 0) (yCons (xLn (xPure gLen (yCons (xVar 6) (yNil)))) (yNil))))) [.ow (penD c m), .sh (.int most), .sh (.int way), .sh (.int n), .sh (.int k), .ow (.lst (ev.map dTI)), .ow (.lst (fs.map dTI)), t7, t8, t9, t10, t11, t12, .no] = some (.ok .nx [.ow (penD c1 m), .sh (.int most), .sh (.int way), .sh (.int n), .sh (.int k), .ow (.lst (ev.map dTI)), .ow (.lst (fs.map dTI)), t7, .sh (dTI f), t9, t10, t11, t12, .no]) := by
    rw [q_set, q_xTk, q_binIx (r := .bw 6) rfl e1 rfl p1]
    rfl
  have hF := hff f hf
  show ∃ (c' : Int) (f' : List Int) (u8 u9 u10 u11 u12 : Slot), sSeq _ _ [.ow (penD c m), .sh (.int most), .sh (.int way), .sh (.int n), .sh (.int k), .ow (.lst (ev.map dTI)), .ow (.lst (fs.map dTI)), t7, t8, t9, t10, t11, t12, .no] = _ ∧ _
  rw [q_seq, s1, q_bnd]
  dsimp only
  have ct : xOr (xCmpT gEq (xVar 2) (xC (.int 0))) (xOr (xCmpT gEq (xVar 4) (xC (.int 0))) (xCmpT gEq (xVar 4) (xVar 3))) [.ow (penD c1 m), .sh (.int most), .sh (.int way), .sh (.int n), .sh (.int k), .ow (.lst (ev.map dTI)), .ow (.lst (fs.map dTI)), t7, .sh (dTI f), t9, t10, t11, t12, .no] = some (.ok (way == 0 || (k == 0 || k == n)) [.ow (penD c1 m), .sh (.int most), .sh (.int way), .sh (.int n), .sh (.int k), .ow (.lst (ev.map dTI)), .ow (.lst (fs.map dTI)), t7, .sh (dTI f), t9, t10, t11, t12, .no]) := by
    simp only [q_or, q_cmpT, q_var, List.getElem?_cons_succ, List.getElem?_cons_zero, q_bnd, q_c, q_rd_sh, Option.bind_some, gEq_int, q_asBl]
    cases way == 0 <;> cases k == 0 <;> simp
  rw [q_if, ct, q_bnd]
  by_cases cc : (way == 0 || (k == 0 || k == n)) = true
  · rw [if_pos cc]
    obtain ⟨d2, c2, e2, a2, b2⟩ := q_draw (c := c1) (m := m) (fe := xLn (xPure gLen (yCons (xVar 5) (yNil)))) (many := ev.length) (ρt := [.sh (.int most), .sh (.int way), .sh (.int n), .sh (.int k), .ow (.lst (ev.map dTI)), .ow (.lst (fs.map dTI)), t7, .sh (dTI f), t9, t10, t11, t12, .no]) (by
      simp [gLen_lT, -List.length_map]) (by omega) (by omega)
    obtain ⟨f', hf', p2⟩ := pickL (inj := dTI) (xs := ev) a2 b2
    refine ⟨c2, f', .sh (dTI f), t9, t10, t11, t12, ?_, hevf f' hf'⟩
    have e3 : xCons (xSh (xBin gIx (xVar 5) (xCallIo φ__law_draw 0 (yCons (xVar 0) (yCons (xLn (xPure gLen (yCons (xVar 5) (yNil)))) (yNil)))))) (xNil) [.ow (penD c1 m), .sh (.int most), .sh (.int way), .sh (.int n), .sh (.int k), .ow (.lst (ev.map dTI)), .ow (.lst (fs.map dTI)), t7, .sh (dTI f), t9, t10, t11, t12, .no] = some (.ok [dTI f'] [.ow (penD c2 m), .sh (.int most), .sh (.int way), .sh (.int n), .sh (.int k), .ow (.lst (ev.map dTI)), .ow (.lst (fs.map dTI)), t7, .sh (dTI f), t9, t10, t11, t12, .no]) := q_xC1 (q_binIx (r := .bw 5) rfl e2 rfl p2)
    rw [q_do, q_appendE (i := 6) rfl rfl e3 (by rw [List.length_map]; omega), q_bnd]
    rw [List.map_append]
    rfl
  · rw [if_neg cc]
    have hk1 : k ≠ 0 := fun z => cc (by simp [z])
    have hkn : k ≠ n := fun z => cc (by simp [z])
    obtain ⟨d2, c2, e2, a2, b2⟩ := q_draw (c := c1) (m := m) (fe := xVar 4) (many := k) (ρt := [.sh (.int most), .sh (.int way), .sh (.int n), .sh (.int k), .ow (.lst (ev.map dTI)), .ow (.lst (fs.map dTI)), t7, .sh (dTI f), t9, t10, t11, t12, .no]) (by simp) (by omega) (by omega)
    obtain ⟨p, hp, p2⟩ := pickT (inj := D.int) (xs := f) a2 (by have := hF.2; omega)
    have s2 : sSet 9 (xBin gIx (xVar 8) (xCallIo φ__law_draw 0 (yCons (xVar 0) (yCons (xVar 4) (yNil))))) [.ow (penD c1 m), .sh (.int most), .sh (.int way), .sh (.int n), .sh (.int k), .ow (.lst (ev.map dTI)), .ow (.lst (fs.map dTI)), t7, .sh (dTI f), t9, t10, t11, t12, .no] = some (.ok .nx [.ow (penD c2 m), .sh (.int most), .sh (.int way), .sh (.int n), .sh (.int k), .ow (.lst (ev.map dTI)), .ow (.lst (fs.map dTI)), t7, .sh (dTI f), .sh (.int p), t10, t11, t12, .no]) := by
      rw [q_set, q_xTk, q_binIx (r := .sh (dTI f)) rfl e2 rfl p2]
      rfl
    rw [q_seq, s2, q_bnd]
    dsimp only
    have hr : xRng (yCons (xVar 3) (yNil)) [.ow (penD c2 m), .sh (.int most), .sh (.int way), .sh (.int n), .sh (.int k), .ow (.lst (ev.map dTI)), .ow (.lst (fs.map dTI)), t7, .sh (dTI f), .sh (.int p), t10, t11, t12, .no] = some (.ok ⟨(numsN n).map .int, none, false⟩ [.ow (penD c2 m), .sh (.int most), .sh (.int way), .sh (.int n), .sh (.int k), .ow (.lst (ev.map dTI)), .ow (.lst (fs.map dTI)), t7, .sh (dTI f), .sh (.int p), t10, t11, t12, .no]) := by
      have := q_rng (fs := yCons (xVar 3) (yNil)) (ρ := [.ow (penD c2 m), .sh (.int most), .sh (.int way), .sh (.int n), .sh (.int k), .ow (.lst (ev.map dTI)), .ow (.lst (fs.map dTI)), t7, .sh (dTI f), .sh (.int p), t10, t11, t12, .no]) (ρ1 := [.ow (penD c2 m), .sh (.int most), .sh (.int way), .sh (.int n), .sh (.int k), .ow (.lst (ev.map dTI)), .ow (.lst (fs.map dTI)), t7, .sh (dTI f), .sh (.int p), t10, t11, t12, .no]) (r := .sh (.int n)) (j := n) (by simp) rfl (by omega)
      rw [Int.toNat_natCast] at this
      exact this
    have k3 := lc_map (fi := xRng (yCons (xVar 3) (yNil))) (g := gN 13) (ct := xCmpT gNin (xVar 13) (xVar 8)) (fe := xVar 13) (vs := [13]) (ρ := [.ow (penD c2 m), .sh (.int most), .sh (.int way), .sh (.int n), .sh (.int k), .ow (.lst (ev.map dTI)), .ow (.lst (fs.map dTI)), t7, .sh (dTI f), .sh (.int p), t10, t11, t12, .no]) (u := none) (dc := false) (ρ1 := [.ow (penD c2 m), .sh (.int most), .sh (.int way), .sh (.int n), .sh (.int k), .ow (.lst (ev.map dTI)), .ow (.lst (fs.map dTI)), t7, .sh (dTI f), .sh (.int p), t10, t11, t12, .no])
      D.int (numsN n) (fun x => !decide (x ∈ f)) D.int (fun x => [.ow (penD c2 m), .sh (.int most), .sh (.int way), .sh (.int n), .sh (.int k), .ow (.lst (ev.map dTI)), .ow (.lst (fs.map dTI)), t7, .sh (dTI f), .sh (.int p), t10, t11, t12, .sh (.int x)]) hr rfl (fun _ _ => rfl) (fun x _ => by simp [gNin_t]) (fun x _ _ => by simp) (fun _ _ => ⟨rfl, rfl⟩)
    let ot := (numsN n).filter fun x => !decide (x ∈ f)
    have s3 : sSet 10 (xLc (xRng (yCons (xVar 3) (yNil))) (gN 13) (xCmpT gNin (xVar 13) (xVar 8)) (xVar 13) [13]) [.ow (penD c2 m), .sh (.int most), .sh (.int way), .sh (.int n), .sh (.int k), .ow (.lst (ev.map dTI)), .ow (.lst (fs.map dTI)), t7, .sh (dTI f), .sh (.int p), t10, t11, t12, .no] = some (.ok .nx [.ow (penD c2 m), .sh (.int most), .sh (.int way), .sh (.int n), .sh (.int k), .ow (.lst (ev.map dTI)), .ow (.lst (fs.map dTI)), t7, .sh (dTI f), .sh (.int p), .ow (.lst (ot.map .int)), t11, t12, .no]) := by
      rw [q_set, q_xTk, k3]; rfl
    rw [q_seq, s3, q_bnd]
    dsimp only
    obtain ⟨d4, c4, e4, a4, b4⟩ := q_draw (c := c2) (m := m) (fe := xLn (xBin Lf.gSub (xVar 3) (xVar 4))) (many := n - k) (ρt := [.sh (.int most), .sh (.int way), .sh (.int n), .sh (.int k), .ow (.lst (ev.map dTI)), .ow (.lst (fs.map dTI)), t7, .sh (dTI f), .sh (.int p), .ow (.lst (ot.map .int)), t11, t12, .no]) (by simp [gSub_i]) (by omega) (by omega)
    obtain ⟨q, hq, p4⟩ := pickL (inj := D.int) (xs := ot) a4 (by have := others_len hF; show d4 < (((numsN n).filter fun x => !decide (x ∈ f)).length : Int); omega)
    have s4 : sSet 11 (xBin gIx (xVar 10) (xCallIo φ__law_draw 0 (yCons (xVar 0) (yCons (xLn (xBin Lf.gSub (xVar 3) (xVar 4))) (yNil))))) [.ow (penD c2 m), .sh (.int most), .sh (.int way), .sh (.int n), .sh (.int k), .ow (.lst (ev.map dTI)), .ow (.lst (fs.map dTI)), t7, .sh (dTI f), .sh (.int p), .ow (.lst (ot.map .int)), t11, t12, .no] = some (.ok .nx [.ow (penD c4 m), .sh (.int most), .sh (.int way), .sh (.int n), .sh (.int k), .ow (.lst (ev.map dTI)), .ow (.lst (fs.map dTI)), t7, .sh (dTI f), .sh (.int p), .ow (.lst (ot.map .int)), .sh (.int q), t12, .no]) := by
      rw [q_set, q_xTk, q_binIx (r := .bw 10) rfl e4 rfl p4]
      rfl
    rw [q_seq, s4, q_bnd]
    dsimp only
    have k5 := lc_map (fi := xIt (xVar 8)) (g := gN 13) (ct := xCmpT gNe (xVar 13) (xVar 9)) (fe := xVar 13) (vs := [13]) (ρ := [.ow (penD c4 m), .sh (.int most), .sh (.int way), .sh (.int n), .sh (.int k), .ow (.lst (ev.map dTI)), .ow (.lst (fs.map dTI)), t7, .sh (dTI f), .sh (.int p), .ow (.lst (ot.map .int)), .sh (.int q), t12, .no]) (u := none) (dc := false) (ρ1 := [.ow (penD c4 m), .sh (.int most), .sh (.int way), .sh (.int n), .sh (.int k), .ow (.lst (ev.map dTI)), .ow (.lst (fs.map dTI)), t7, .sh (dTI f), .sh (.int p), .ow (.lst (ot.map .int)), .sh (.int q), t12, .no])
      D.int f (fun x => !(x == p)) D.int (fun x => [.ow (penD c4 m), .sh (.int most), .sh (.int way), .sh (.int n), .sh (.int k), .ow (.lst (ev.map dTI)), .ow (.lst (fs.map dTI)), t7, .sh (dTI f), .sh (.int p), .ow (.lst (ot.map .int)), .sh (.int q), t12, .sh (.int x)]) rfl rfl (fun _ _ => rfl) (fun x _ => by simp [gNe_int]) (fun x _ _ => by simp) (fun _ _ => ⟨rfl, rfl⟩)
    have s5 : sSet 12 (xLc (xIt (xVar 8)) (gN 13) (xCmpT gNe (xVar 13) (xVar 9)) (xVar 13) [13]) [.ow (penD c4 m), .sh (.int most), .sh (.int way), .sh (.int n), .sh (.int k), .ow (.lst (ev.map dTI)), .ow (.lst (fs.map dTI)), t7, .sh (dTI f), .sh (.int p), .ow (.lst (ot.map .int)), .sh (.int q), t12, .no] = some (.ok .nx [.ow (penD c4 m), .sh (.int most), .sh (.int way), .sh (.int n), .sh (.int k), .ow (.lst (ev.map dTI)), .ow (.lst (fs.map dTI)), t7, .sh (dTI f), .sh (.int p), .ow (.lst (ot.map .int)), .sh (.int q), .ow (.lst ((rest f p).map .int)), .no]) := by
      rw [q_set, q_xTk, k5]; rfl
    rw [q_seq, s5, q_bnd]
    dsimp only
    let f' := sortI (rest f p ++ [q])
    have hl : (rest f p).length + [q].length ≤ sizeLine := by
      have := rest_len (pw_nodup hF.1.1) hp
      have := hF.2
      rw [List.length_singleton]
      omega
    have e6 : xPure gTuple (yCons (xPure gSort (yCons (xBin gAdd (xVar 12) (xLst (xCons (xShK (xVar 11)) (xNil)))) (yNil))) (yNil)) [.ow (penD c4 m), .sh (.int most), .sh (.int way), .sh (.int n), .sh (.int k), .ow (.lst (ev.map dTI)), .ow (.lst (fs.map dTI)), t7, .sh (dTI f), .sh (.int p), .ow (.lst (ot.map .int)), .sh (.int q), .ow (.lst ((rest f p).map .int)), .no] = some (.ok (.sh (dTI f')) [.ow (penD c4 m), .sh (.int most), .sh (.int way), .sh (.int n), .sh (.int k), .ow (.lst (ev.map dTI)), .ow (.lst (fs.map dTI)), t7, .sh (dTI f), .sh (.int p), .ow (.lst (ot.map .int)), .sh (.int q), .ow (.lst ((rest f p).map .int)), .no]) := by
      have ea : xBin gAdd (xVar 12) (xLst (xCons (xShK (xVar 11)) (xNil))) [.ow (penD c4 m), .sh (.int most), .sh (.int way), .sh (.int n), .sh (.int k), .ow (.lst (ev.map dTI)), .ow (.lst (fs.map dTI)), t7, .sh (dTI f), .sh (.int p), .ow (.lst (ot.map .int)), .sh (.int q), .ow (.lst ((rest f p).map .int)), .no] = (gAdd (.lst ((rest f p).map .int)) (.lst ([q].map .int))).map fun r => .ok r [.ow (penD c4 m), .sh (.int most), .sh (.int way), .sh (.int n), .sh (.int k), .ow (.lst (ev.map dTI)), .ow (.lst (fs.map dTI)), t7, .sh (dTI f), .sh (.int p), .ow (.lst (ot.map .int)), .sh (.int q), .ow (.lst ((rest f p).map .int)), .no] := rfl
      rw [q_pure, q_yC, q_pure, q_yC, ea, gAdd_lI hl]
      simp only [Option.map_some, q_bnd, q_yN, q_rdA, q_rd_ow, q_rdA0, Option.bind_some, gSort_ints, gTuple_l]
      rfl
    refine ⟨c4, f', .sh (dTI f), .sh (.int p), .ow (.lst (ot.map .int)), .sh (.int q), .ow (.lst ((rest f p).map .int)), ?_, new_face hF hp hq⟩
    rw [q_do, q_appendE (i := 6) rfl rfl (q_xC1 e6) (by rw [List.length_map]; omega), q_bnd]
    rw [List.map_append]
    rfl
end K21

set_option Elab.async false
set_option linter.all false
set_option maxRecDepth 100000
set_option maxHeartbeats 1000000
/-! k21: drawn stacks, whole. -/
namespace K21
open PySem PySem.Spec L2 Lf
abbrev loopB : Ev Fl := sFor (xRng (yCons (xCallIo φ__law_draw 0 (yCons (xVar 0) (yCons (xVar 1) (yNil)))) (yNil))) (gN 7) growB
theorem e_loop {c m most way k : Int} {n : Nat} {ev fs : List (List Int)} (hm : 1 ≤ most) (hm2 : most ≤ 60) (hk0 : 0 ≤ k) (hk : k ≤ n) (hn : n ≤ 8) (hev : ev ≠ []) (hevl : ev.length ≤ 256) (hevf : ∀ f ∈ ev, FG n k f) (hfs : fs.length = 1) (hff : ∀ f ∈ fs, FG n k f) :
    ∃ (c' : Int) (fs' : List (List Int)) (t7 t8 t9 t10 t11 t12 : Slot), loopB [.ow (penD c m), .sh (.int most), .sh (.int way), .sh (.int n), .sh (.int k), .ow (.lst (ev.map dTI)), .ow (.lst (fs.map dTI)), .no, .no, .no, .no, .no, .no, .no] = some (.ok .nx [.ow (penD c' m), .sh (.int most), .sh (.int way), .sh (.int n), .sh (.int k), .ow (.lst (ev.map dTI)), .ow (.lst (fs'.map dTI)), t7, t8, t9, t10, t11, t12, .no]) ∧ fs' ≠ [] ∧ (fs'.length : Int) ≤ most ∧ ∀ f ∈ fs', FG n k f := by
  obtain ⟨d, c1, e1, a1, b1⟩ := q_draw (c := c) (m := m) (fe := xVar 1) (many := most) (ρt := [.sh (.int most), .sh (.int way), .sh (.int n), .sh (.int k), .ow (.lst (ev.map dTI)), .ow (.lst (fs.map dTI)), .no, .no, .no, .no, .no, .no, .no]) (by simp) (by omega) (by omega)
  let I : List Int → Lf.Env → Prop := fun dn ρ => ∃ (c' : Int) (fs' : List (List Int)) (t7 t8 t9 t10 t11 t12 : Slot), ρ = [.ow (penD c' m), .sh (.int most), .sh (.int way), .sh (.int n), .sh (.int k), .ow (.lst (ev.map dTI)), .ow (.lst (fs'.map dTI)), t7, t8, t9, t10, t11, t12, .no] ∧ fs'.length = dn.length + 1 ∧ ∀ f ∈ fs', FG n k f
  obtain ⟨ρ', hf, c', fs', t7, t8, t9, t10, t11, t12, er, hl, hff'⟩ := for_inv (dc := false) (g := gN 7) (fb := growB) D.int I (numsN d.toNat) [] [.ow (penD c1 m), .sh (.int most), .sh (.int way), .sh (.int n), .sh (.int k), .ow (.lst (ev.map dTI)), .ow (.lst (fs.map dTI)), .no, .no, .no, .no, .no, .no, .no] rfl ⟨c1, fs, .no, .no, .no, .no, .no, .no, rfl, hfs, hff⟩ fun dn x rr ρ er ⟨c', fs', t7, t8, t9, t10, t11, t12, e, hl, hff'⟩ => by
    subst e
    obtain ⟨ex, hi⟩ := numsN_at (show numsN d.toNat = dn ++ x :: rr from er)
    obtain ⟨c2, f', u8, u9, u10, u11, u12, e, hf'⟩ := e_grow (c := c') (m := m) (most := most) (way := way) (t7 := .sh (.int x)) (t8 := t8) (t9 := t9) (t10 := t10) (t11 := t11) (t12 := t12) hk0 hk hn hev hevl hevf (fs := fs') (List.ne_nil_of_length_eq_add_one hl) (by omega) hff'
    refine ⟨_, _, rfl, e, c2, _, _, u8, u9, u10, u11, u12, rfl, ?_, ?_⟩
    · rw [List.length_append, List.length_append, List.length_singleton, List.length_singleton, hl]
    · intro f hf
      rcases List.mem_append.mp hf with hf | hf
      · exact hff' f hf
      · rw [List.mem_singleton.mp hf]; exact hf'
  subst er
  have hi : xRng (yCons (xCallIo φ__law_draw 0 (yCons (xVar 0) (yCons (xVar 1) (yNil)))) (yNil)) [.ow (penD c m), .sh (.int most), .sh (.int way), .sh (.int n), .sh (.int k), .ow (.lst (ev.map dTI)), .ow (.lst (fs.map dTI)), .no, .no, .no, .no, .no, .no, .no] = some (.ok ⟨(numsN d.toNat).map .int, none, false⟩ [.ow (penD c1 m), .sh (.int most), .sh (.int way), .sh (.int n), .sh (.int k), .ow (.lst (ev.map dTI)), .ow (.lst (fs.map dTI)), .no, .no, .no, .no, .no, .no, .no]) := by
    exact q_rng (fs := yCons (xCallIo φ__law_draw 0 (yCons (xVar 0) (yCons (xVar 1) (yNil)))) (yNil)) (ρ1 := [.ow (penD c1 m), .sh (.int most), .sh (.int way), .sh (.int n), .sh (.int k), .ow (.lst (ev.map dTI)), .ow (.lst (fs.map dTI)), .no, .no, .no, .no, .no, .no, .no]) (r := .sh (.int d)) (j := d) (by rw [q_yC, e1]; rfl) rfl (by omega)
  refine ⟨c', fs', t7, t8, t9, t10, t11, t12, for_eq hi hf, List.ne_nil_of_length_eq_add_one hl, ?_, hff'⟩
  rw [List.nil_append] at hl
  unfold numsN at hl
  rw [List.length_map, List.length_range] at hl
  omega
theorem e_stack (c0 m : Int) {most : Int} (hm : 1 ≤ most) (hm2 : most ≤ 60) : ∃ (c' : Int) (n : Nat) (k : Int) (fs : List (List Int)), φ__law_stack [penD c0 m, .int most] = some (.ok (.sh (stk n k fs)) (penD c' m)) ∧ GS0 n k fs ∧ (fs.length : Int) ≤ most := by
  have sz := sz9
  obtain ⟨way, c1, e1, a1, b1⟩ := q_draw (c := c0) (m := m) (fe := xLn (xC (.int 7))) (many := 7) (ρt := [.sh (.int most), .no, .no, .no, .no, .no, .no, .no, .no, .no, .no, .no, .no]) (by simp) (by omega) (by omega)
  have s1 : sSet 2 (xCallIo φ__law_draw 0 (yCons (xVar 0) (yCons (xLn (xC (.int 7))) (yNil)))) [.ow (penD c0 m), .sh (.int most), .no, .no, .no, .no, .no, .no, .no, .no, .no, .no, .no, .no] = some (.ok .nx [.ow (penD c1 m), .sh (.int most), .sh (.int way), .no, .no, .no, .no, .no, .no, .no, .no, .no, .no, .no]) := by
    rw [q_set, q_xTk, e1]; rfl
  obtain ⟨d2, c2, e2, a2, b2⟩ := q_draw (c := c1) (m := m) (fe := xLn (xC (.int 8))) (many := 8) (ρt := [.sh (.int most), .sh (.int way), .no, .no, .no, .no, .no, .no, .no, .no, .no, .no, .no]) (by simp) (by omega) (by omega)
  obtain ⟨n, p2, hn1, hn8⟩ := pick8 a2 b2
  have s2 : sSet 3 (xBin gIx (xLst (xCons (xSh (xC (.int 5))) (xCons (xSh (xC (.int 4))) (xCons (xSh (xC (.int 6))) (xCons (xSh (xC (.int 3))) (xCons (xSh (xC (.int 7))) (xCons (xSh (xC (.int 8))) (xCons (xSh (xC (.int 2))) (xCons (xSh (xC (.int 1))) (xNil)))))))))) (xCallIo φ__law_draw 0 (yCons (xVar 0) (yCons (xLn (xC (.int 8))) (yNil))))) [.ow (penD c1 m), .sh (.int most), .sh (.int way), .no, .no, .no, .no, .no, .no, .no, .no, .no, .no, .no] = some (.ok .nx [.ow (penD c2 m), .sh (.int most), .sh (.int way), .sh (.int n), .no, .no, .no, .no, .no, .no, .no, .no, .no, .no]) := by
    rw [q_set, q_xTk, q_binIx (r := .ow (.lst [.int 5, .int 4, .int 6, .int 3, .int 7, .int 8, .int 2, .int 1])) rfl e2 rfl p2]; rfl
  obtain ⟨d3, c3, e3, a3, b3⟩ := q_draw (c := c2) (m := m) (fe := xLn (xC (.int 7))) (many := 7) (ρt := [.sh (.int most), .sh (.int way), .sh (.int n), .no, .no, .no, .no, .no, .no, .no, .no, .no, .no]) (by simp) (by omega) (by omega)
  obtain ⟨j, p3, hj0, hj4⟩ := pick7 a3 b3
  obtain ⟨k, ek⟩ : ∃ k : Int, k = if j < (n : Int) then j else (n : Int) := ⟨_, rfl⟩
  have hk0 : 0 ≤ k := by rw [ek]; split <;> omega
  have hk4 : k ≤ 4 := by rw [ek]; split <;> omega
  have hkn : k ≤ n := by rw [ek]; split <;> omega
  have s3 : sSet 4 (xPure gMin (yCons (xVar 3) (yCons (xBin gIx (xLst (xCons (xSh (xC (.int 2))) (xCons (xSh (xC (.int 3))) (xCons (xSh (xC (.int 1))) (xCons (xSh (xC (.int 4))) (xCons (xSh (xC (.int 3))) (xCons (xSh (xC (.int 2))) (xCons (xSh (xC (.int 0))) (xNil))))))))) (xCallIo φ__law_draw 0 (yCons (xVar 0) (yCons (xLn (xC (.int 7))) (yNil))))) (yNil)))) [.ow (penD c2 m), .sh (.int most), .sh (.int way), .sh (.int n), .no, .no, .no, .no, .no, .no, .no, .no, .no, .no] = some (.ok .nx [.ow (penD c3 m), .sh (.int most), .sh (.int way), .sh (.int n), .sh (.int k), .no, .no, .no, .no, .no, .no, .no, .no, .no]) := by
    have ea : (yCons (xVar 3) (yCons (xBin gIx (xLst (xCons (xSh (xC (.int 2))) (xCons (xSh (xC (.int 3))) (xCons (xSh (xC (.int 1))) (xCons (xSh (xC (.int 4))) (xCons (xSh (xC (.int 3))) (xCons (xSh (xC (.int 2))) (xCons (xSh (xC (.int 0))) (xNil))))))))) (xCallIo φ__law_draw 0 (yCons (xVar 0) (yCons (xLn (xC (.int 7))) (yNil))))) (yNil))) [.ow (penD c2 m), .sh (.int most), .sh (.int way), .sh (.int n), .no, .no, .no, .no, .no, .no, .no, .no, .no, .no] = some (.ok [.sh (.int n), .sh (.int j)] [.ow (penD c3 m), .sh (.int most), .sh (.int way), .sh (.int n), .no, .no, .no, .no, .no, .no, .no, .no, .no, .no]) := by
      rw [q_yC, q_var]
      dsimp only [List.getElem?_cons_zero, List.getElem?_cons_succ]
      rw [q_bnd, q_yC, q_binIx (r := .ow (.lst [.int 2, .int 3, .int 1, .int 4, .int 3, .int 2, .int 0])) rfl e3 rfl p3]
      rfl
    rw [q_set, q_xTk, q_pure, ea]
    simp only [q_bnd, q_rdA, q_rdA0, q_rd_sh, Option.bind_some, Option.map_some, gMin2, q_tk_sh, q_sl_sh]
    rw [← ek]
    rfl
  obtain ⟨ev, e4, hev, hevl, hevf⟩ : ∃ ev : List (List Int), φ__law_all [.int n, .int k] = some (.ok (.ow (.lst (ev.map dTI))) .non) ∧ ev ≠ [] ∧ ev.length ≤ 256 ∧ ∀ f ∈ ev, FG n k f :=
    ⟨allL n k, e_all hn8 hk0, allL_ne hk0 hkn, Nat.le_trans allL_len (Nat.pow_le_pow_right (n := 2) (by omega) hn8), fun f hf => (allL_mem hk0).mp hf⟩
  have s4 : sSet 5 (xCall φ__law_all (yCons (xVar 3) (yCons (xVar 4) (yNil)))) [.ow (penD c3 m), .sh (.int most), .sh (.int way), .sh (.int n), .sh (.int k), .no, .no, .no, .no, .no, .no, .no, .no, .no] = some (.ok .nx [.ow (penD c3 m), .sh (.int most), .sh (.int way), .sh (.int n), .sh (.int k), .ow (.lst (ev.map dTI)), .no, .no, .no, .no, .no, .no, .no, .no]) := by
    simp [e4]
  have := List.length_pos_iff.mpr hev
  obtain ⟨d5, c5, e5, a5, b5⟩ := q_draw (c := c3) (m := m) (fe := xLn (xPure gLen (yCons (xVar 5) (yNil)))) (many := ev.length) (ρt := [.sh (.int most), .sh (.int way), .sh (.int n), .sh (.int k), .ow (.lst (ev.map dTI)), .no, .no, .no, .no, .no, .no, .no, .no]) (by simp [gLen_lT, -List.length_map]) (by omega) (by omega)
  obtain ⟨f0, hf0, p5⟩ := pickL (inj := dTI) (xs := ev) a5 b5
  have s5 : sSet 6 (xLst (xCons (xSh (xBin gIx (xVar 5) (xCallIo φ__law_draw 0 (yCons (xVar 0) (yCons (xLn (xPure gLen (yCons (xVar 5) (yNil)))) (yNil)))))) (xNil))) [.ow (penD c3 m), .sh (.int most), .sh (.int way), .sh (.int n), .sh (.int k), .ow (.lst (ev.map dTI)), .no, .no, .no, .no, .no, .no, .no, .no] = some (.ok .nx [.ow (penD c5 m), .sh (.int most), .sh (.int way), .sh (.int n), .sh (.int k), .ow (.lst (ev.map dTI)), .ow (.lst ([f0].map dTI)), .no, .no, .no, .no, .no, .no, .no]) := by
    rw [q_set, q_xTk, q_lst, q_xC1 (q_binIx (r := .bw 5) rfl e5 rfl p5)]
    rfl
  obtain ⟨c6, fs, t7, t8, t9, t10, t11, t12, s6, hfs, hfl, hff⟩ := e_loop (c := c5) (m := m) (way := way) (fs := [f0]) hm hm2 hk0 hkn hn8 hev hevl hevf rfl fun f hf => by
    rw [List.mem_singleton.mp hf]; exact hevf f0 hf0
  -- shut ones
  have s7 : ∃ fs' : List (List Int), sIf (xAnd (xCmpT gEq (xVar 2) (xC (.int 6))) (xAnd (xCmpT gLt (xVar 4) (xVar 3)) (xCmpT gLt (xVar 4) (xVar 1)))) (sSet 6 (xCall φ__law_all (yCons (xLn (xBin gAdd (xVar 4) (xC (.int 1)))) (yCons (xVar 4) (yNil))))) (sSkip) [.ow (penD c6 m), .sh (.int most), .sh (.int way), .sh (.int n), .sh (.int k), .ow (.lst (ev.map dTI)), .ow (.lst (fs.map dTI)), t7, t8, t9, t10, t11, t12, .no] = some (.ok .nx [.ow (penD c6 m), .sh (.int most), .sh (.int way), .sh (.int n), .sh (.int k), .ow (.lst (ev.map dTI)), .ow (.lst (fs'.map dTI)), t7, t8, t9, t10, t11, t12, .no]) ∧ fs' ≠ [] ∧ (fs'.length : Int) ≤ most ∧ ∀ f ∈ fs', FG n k f := by
    have ct : xAnd (xCmpT gEq (xVar 2) (xC (.int 6))) (xAnd (xCmpT gLt (xVar 4) (xVar 3)) (xCmpT gLt (xVar 4) (xVar 1))) [.ow (penD c6 m), .sh (.int most), .sh (.int way), .sh (.int n), .sh (.int k), .ow (.lst (ev.map dTI)), .ow (.lst (fs.map dTI)), t7, t8, t9, t10, t11, t12, .no] = some (.ok (way == 6 && (decide (k < n) && decide (k < most))) [.ow (penD c6 m), .sh (.int most), .sh (.int way), .sh (.int n), .sh (.int k), .ow (.lst (ev.map dTI)), .ow (.lst (fs.map dTI)), t7, t8, t9, t10, t11, t12, .no]) := by
      simp only [q_and, q_cmpT, q_var, List.getElem?_cons_succ, List.getElem?_cons_zero, q_bnd, q_c, q_rd_sh, Option.bind_some, gEq_int, gLt, q_asBl]
      cases way == 6 <;> cases decide (k < (n : Int)) <;> simp
    rw [q_if, ct, q_bnd]
    by_cases cc : (way == 6 && (decide (k < n) && decide (k < most))) = true
    · rw [if_pos cc]
      simp only [Bool.and_eq_true, decide_eq_true_eq] at cc
      obtain ⟨_, hlt, hlm⟩ := cc
      obtain ⟨kn, rfl⟩ := Int.eq_ofNat_of_zero_le hk0
      have ea := e_all (n := kn + 1) (k := (kn : Int)) (by omega) hk0
      refine ⟨allL (kn + 1) kn, ?_, allL_ne hk0 (by omega), ?_, fun f hf => ?_⟩
      · have e1 : ((kn + 1 : Nat) : Int) = (kn : Int) + 1 := by omega
        rw [e1] at ea
        have eb : (yCons (xLn (xBin gAdd (xVar 4) (xC (.int 1)))) (yCons (xVar 4) (yNil))) [.ow (penD c6 m), .sh (.int most), .sh (.int way), .sh (.int n), .sh (.int (kn : Int)), .ow (.lst (ev.map dTI)), .ow (.lst (fs.map dTI)), t7, t8, t9, t10, t11, t12, .no] = some (.ok [.sh (.int ((kn : Int) + 1)), .sh (.int (kn : Int))] [.ow (penD c6 m), .sh (.int most), .sh (.int way), .sh (.int n), .sh (.int (kn : Int)), .ow (.lst (ev.map dTI)), .ow (.lst (fs.map dTI)), t7, t8, t9, t10, t11, t12, .no]) := rfl
        rw [q_set, q_xTk, q_call_eq eb rfl ea rfl]
        rfl
      · rw [allL_k1 (by omega)]; omega
      · obtain ⟨⟨h1, h2⟩, h3⟩ := (allL_mem hk0).mp hf
        exact ⟨⟨h1, fun p hp => by have := h2 p hp; omega⟩, h3⟩
    · rw [if_neg cc]
      exact ⟨fs, rfl, hfs, hfl, hff⟩
  obtain ⟨fs', s7, hfs', hfl', hff'⟩ := s7
  let out := sortT (dd fs')
  have hol : out.length ≤ fs'.length := by
    show (sortT (dd fs')).length ≤ _
    rw [sortT_len]; exact dd_len _
  have hof : ∀ f ∈ out, FG n k f := fun f hf => hff' f (dd_mem.mp (sortT_mem.mp hf))
  have hone : out ≠ [] := by
    obtain ⟨f, hf⟩ := List.exists_mem_of_ne_nil _ hfs'
    exact List.ne_nil_of_mem (sortT_mem.mpr (dd_mem.mpr hf))
  refine ⟨c6, n, k, out, ?_, ⟨by omega, by omega, hk0, hkn, hk4, List.length_pos_iff.mpr hone, by omega, fun f hf => (hof f hf).1.1, fun f hf => (hof f hf).1.2, fun f hf => (hof f hf).2, sortT_up (dd_nodup _)⟩, by omega⟩
  have s8 : (xTup (xCons (xShK (xVar 3)) (xCons (xShK (xVar 4)) (xCons (xSh (xPure gTuple (yCons (xSortSet (xVar 6)) (yNil)))) (xNil))))) [.ow (penD c6 m), .sh (.int most), .sh (.int way), .sh (.int n), .sh (.int k), .ow (.lst (ev.map dTI)), .ow (.lst (fs'.map dTI)), t7, t8, t9, t10, t11, t12, .no] = some (.ok (.sh (stk n k out)) [.ow (penD c6 m), .sh (.int most), .sh (.int way), .sh (.int n), .sh (.int k), .ow (.lst (ev.map dTI)), .ow (.lst (fs'.map dTI)), t7, t8, t9, t10, t11, t12, .no]) := by
    have ea : xSortSet (xVar 6) [.ow (penD c6 m), .sh (.int most), .sh (.int way), .sh (.int n), .sh (.int k), .ow (.lst (ev.map dTI)), .ow (.lst (fs'.map dTI)), t7, t8, t9, t10, t11, t12, .no] = some (.ok (.ow (.lst (out.map dTI))) [.ow (penD c6 m), .sh (.int most), .sh (.int way), .sh (.int n), .sh (.int k), .ow (.lst (ev.map dTI)), .ow (.lst (fs'.map dTI)), t7, t8, t9, t10, t11, t12, .no]) := by
      unfold xSortSet
      rw [q_var]
      dsimp only [List.getElem?_cons_succ, List.getElem?_cons_zero]
      rw [q_bnd, q_rd_bw]
      dsimp only [List.getElem?_cons_succ, List.getElem?_cons_zero]
      rw [asTs_tI, Option.bind_some, if_pos (by omega)]
    have eb : xSh (xPure gTuple (yCons (xSortSet (xVar 6)) (yNil))) [.ow (penD c6 m), .sh (.int most), .sh (.int way), .sh (.int n), .sh (.int k), .ow (.lst (ev.map dTI)), .ow (.lst (fs'.map dTI)), t7, t8, t9, t10, t11, t12, .no] = some (.ok (.sh (.tup (out.map dTI))) [.ow (penD c6 m), .sh (.int most), .sh (.int way), .sh (.int n), .sh (.int k), .ow (.lst (ev.map dTI)), .ow (.lst (fs'.map dTI)), t7, t8, t9, t10, t11, t12, .no]) := by
      rw [q_xSh, q_pure, q_yC, ea]
      rfl
    have ec : xCons (xSh (xPure gTuple (yCons (xSortSet (xVar 6)) (yNil)))) (xNil) [.ow (penD c6 m), .sh (.int most), .sh (.int way), .sh (.int n), .sh (.int k), .ow (.lst (ev.map dTI)), .ow (.lst (fs'.map dTI)), t7, t8, t9, t10, t11, t12, .no] = some (.ok [.tup (out.map dTI)] [.ow (penD c6 m), .sh (.int most), .sh (.int way), .sh (.int n), .sh (.int k), .ow (.lst (ev.map dTI)), .ow (.lst (fs'.map dTI)), t7, t8, t9, t10, t11, t12, .no]) := by
      unfold xCons
      rw [eb]
      rfl
    rw [q_tup, q_xC (q_shK (i := 3) rfl), q_xC (q_shK (i := 4) rfl), ec]
    rfl
  refine runIo_sh rfl (ρ' := [.sh (.int most), .sh (.int way), .sh (.int n), .sh (.int k), .ow (.lst (ev.map dTI)), .ow (.lst (fs'.map dTI)), t7, t8, t9, t10, t11, t12, .no]) ?_
  show fB__law_stack [.ow (penD c0 m), .sh (.int most), .no, .no, .no, .no, .no, .no, .no, .no, .no, .no, .no, .no] = _
  unfold fB__law_stack
  rw [q_seq, s1, q_bnd]
  dsimp only
  rw [q_seq, s2, q_bnd]
  dsimp only
  rw [q_seq, s3, q_bnd]
  dsimp only
  rw [q_seq, s4, q_bnd]
  dsimp only
  rw [q_seq, s5, q_bnd]
  dsimp only
  rw [q_seq]
  show bnd (loopB _) _ = _
  rw [s6, q_bnd]
  dsimp only
  rw [q_seq, s7, q_bnd]
  dsimp only
  rw [q_ret, q_xTk, s8]
  rfl
end K21

set_option Elab.async false
set_option linter.all false
set_option maxRecDepth 100000
set_option maxHeartbeats 1000000
/-! k21: barred stacks. -/
namespace K21
open PySem PySem.Spec L2 Lf
theorem q_args2 {ρ : Lf.Env} {d0 x : D} {fe : Ev Val} (h0 : ρ[0]? = some (.ow d0)) (h : fe ρ = some (.ok (.sh x) ρ)) : (yCons (xVar 0) (yCons fe (yNil))) ρ = some (.ok [.bw 0, .sh x] ρ) := by
  rw [q_yC, q_var, h0]
  dsimp only
  rw [q_bnd, q_yC, h, q_bnd, q_yN, q_bnd]
  rfl
theorem q_stack {ρt : Lf.Env} {fe : Ev Val} {c m most : Int} (h : fe (.ow (penD c m) :: ρt) = some (.ok (.sh (.int most)) (.ow (penD c m) :: ρt))) (h1 : 1 ≤ most) (h2 : most ≤ 60) :
    ∃ (c' : Int) (n : Nat) (k : Int) (fs : List (List Int)), xCallIo φ__law_stack 0 (yCons (xVar 0) (yCons fe (yNil))) (.ow (penD c m) :: ρt) = some (.ok (.sh (stk n k fs)) (.ow (penD c' m) :: ρt)) ∧ GS0 n k fs ∧ (fs.length : Int) ≤ most := by
  obtain ⟨c', n, k, fs, e, g⟩ := e_stack c m h1 h2
  exact ⟨c', n, k, fs, q_callIo1 (ρ1 := .ow (penD c m) :: ρt) (q_args2 rfl h) rfl e rfl rfl, g⟩
theorem q_parS {i j : Nat} {fa fb : Ev Val} {ρ ρ1 ρ2 : Lf.Env} {a b : D} (ha : fa ρ = some (.ok (.sh a) ρ1)) (hb : fb ρ1 = some (.ok (.sh b) ρ2)) : sPar i j fa fb ρ = some (.ok .nx ((ρ2.set i (.sh a)).set j (.sh b))) := by
  unfold sPar
  rw [q_xTk, ha, q_bnd, q_tk_sh, Option.map_some, q_bnd, q_xTk, hb, q_bnd, q_tk_sh, Option.map_some, q_bnd]
  rfl
theorem q_parO {i j : Nat} {fa fb : Ev Val} {ρ ρ1 ρ2 : Lf.Env} {a b : D} (ha : fa ρ = some (.ok (.sh a) ρ1)) (hb : fb ρ1 = some (.ok (.ow b) ρ2)) : sPar i (j + 1) fa fb ρ = some (.ok .nx ((ρ2.set i (.sh a)).set (j + 1) (.ow b))) := by
  unfold sPar
  rw [q_xTk, ha, q_bnd, q_tk_sh, Option.map_some, q_bnd, q_xTk, hb, q_bnd, q_tk_ow, Option.map_some, q_bnd]
  rfl
theorem gIx0 (n k : Int) (fs : List (List Int)) : gIx (stk n k fs) (.int 0) = some (.sh (.int n)) := rfl
def moved (n b : Int) (f : List Int) : List Int := sortI (f.map fun p => (p + b).fmod n)
theorem moved_ok {n : Nat} (hn1 : 1 ≤ n) (hn8 : n ≤ 8) {k b : Int} {f : List Int} (h : FG n k f) : FG n k (moved n b f) := by
  obtain ⟨⟨h1, h2⟩, h3⟩ := h
  have e : ∀ x : Int, x.fmod n = x % (n : Int) := fun x => Int.fmod_eq_emod_of_nonneg _ (by omega)
  have inj : ∀ p q : Int, 0 ≤ p → p ≤ n - 1 → 0 ≤ q → q ≤ n - 1 → (p + b).fmod n = (q + b).fmod n → p = q := fun p q _ _ _ _ h => by
    rw [e, e] at h
    have : n = 1 ∨ n = 2 ∨ n = 3 ∨ n = 4 ∨ n = 5 ∨ n = 6 ∨ n = 7 ∨ n = 8 := by omega
    rcases this with rfl | rfl | rfl | rfl | rfl | rfl | rfl | rfl <;> omega
  have nd : (f.map fun p => (p + b).fmod n).Nodup := List.pairwise_map.mpr (List.Pairwise.imp_of_mem (fun {x y} hx hy hne z => hne (inj x y (h2 x hx).1 (h2 x hx).2 (h2 y hy).1 (h2 y hy).2 z)) (pw_nodup h1))
  refine ⟨⟨sortI_up nd, fun x hx => ?_⟩, ?_⟩
  · obtain ⟨p, _, rfl⟩ := List.mem_map.mp (sortI_mem.mp hx)
    have := mod_in (a := p + b) (b := (n : Int)) (by omega)
    omega
  · unfold moved
    rw [sortI_len, List.length_map]; exact h3
theorem e_barred (c0 m : Int) {most : Int} (hm : 2 ≤ most) (hm2 : most ≤ 60) : ∃ (c' : Int) (n : Nat) (k : Int) (fs : List (List Int)), φ__law_barred [penD c0 m, .int most] = some (.ok (.sh (stk n k fs)) (penD c' m)) ∧ GS0 n k fs ∧ (fs.length : Int) ≤ most := by
  have sz := sz9
  obtain ⟨c1, n, k, fs, e1, g, gl⟩ := q_stack (c := c0) (m := m) (fe := xLn (xBin gAdd (xBin gFdiv (xVar 1) (xC (.int 2))) (xC (.int 1)))) (most := most.fdiv 2 + 1) (ρt := [.sh (.int most), .no, .no, .no, .no, .no, .no, .no, .no, .no]) (by
    simp [gFdiv_i (b := 2) (by omega) (by omega), gAdd_i]) (by
    rw [Int.fdiv_eq_ediv_of_nonneg _ (by omega)]; omega) (by
    rw [Int.fdiv_eq_ediv_of_nonneg _ (by omega)]; omega)
  have gl : (fs.length : Int) ≤ most := by
    rw [Int.fdiv_eq_ediv_of_nonneg _ (by omega)] at gl; omega
  obtain ⟨c2, n2, k2, fs2, e2, g2, gl2⟩ := q_stack (c := c1) (m := m) (fe := xVar 1) (most := most) (ρt := [.sh (.int most), .no, .no, .no, .no, .no, .no, .no, .no, .no]) (by simp) (by omega) (by omega)
  have s1 := q_parS (i := 3) (j := 4) e1 e2
  have s2 : sPar 5 6 (xBin gIx (xVar 3) (xC (.int 0))) (xBin gIx (xVar 3) (xC (.int 1))) [.ow (penD c2 m), .sh (.int most), .no, .sh (stk n k fs), .sh (stk n2 k2 fs2), .no, .no, .no, .no, .no, .no] = some (.ok .nx [.ow (penD c2 m), .sh (.int most), .no, .sh (stk n k fs), .sh (stk n2 k2 fs2), .sh (.int n), .sh (.int k), .no, .no, .no, .no]) := by
    rw [q_parS (ρ1 := [.ow (penD c2 m), .sh (.int most), .no, .sh (stk n k fs), .sh (stk n2 k2 fs2), .no, .no, .no, .no, .no, .no]) (ρ2 := [.ow (penD c2 m), .sh (.int most), .no, .sh (stk n k fs), .sh (stk n2 k2 fs2), .no, .no, .no, .no, .no, .no]) (a := .int n) (b := .int k) (by simp [gIx0]) (by simp [gIx1])]
    rfl
  have hn1 := g.n1
  have hn8 := g.n8
  obtain ⟨b, c3, e3, _, _⟩ := q_draw (c := c2) (m := m) (fe := xVar 5) (many := n) (ρt := [.sh (.int most), .no, .sh (stk n k fs), .sh (stk n2 k2 fs2), .sh (.int n), .sh (.int k), .no, .no, .no, .no]) (by simp) (by omega) (by omega)
  have s3 : sPar 7 8 (xCallIo φ__law_draw 0 (yCons (xVar 0) (yCons (xVar 5) (yNil)))) (xPure gList (yCons (xBin gIx (xVar 3) (xC (.int 2))) (yNil))) [.ow (penD c2 m), .sh (.int most), .no, .sh (stk n k fs), .sh (stk n2 k2 fs2), .sh (.int n), .sh (.int k), .no, .no, .no, .no] = some (.ok .nx [.ow (penD c3 m), .sh (.int most), .no, .sh (stk n k fs), .sh (stk n2 k2 fs2), .sh (.int n), .sh (.int k), .sh (.int b), .ow (.lst (fs.map dTI)), .no, .no]) := by
    rw [q_parO e3 (ρ2 := [.ow (penD c3 m), .sh (.int most), .no, .sh (stk n k fs), .sh (stk n2 k2 fs2), .sh (.int n), .sh (.int k), .no, .no, .no, .no]) (b := .lst (fs.map dTI)) (by
      simp [gIx2, gList, -List.map_map])]
    rfl
  let I : List (List Int) → Lf.Env → Prop := fun dn ρ => ∃ (lf : List (List Int)) (t2 t9 : Slot), ρ = [.ow (penD c3 m), .sh (.int most), t2, .sh (stk n k fs), .sh (stk n2 k2 fs2), .sh (.int n), .sh (.int k), .sh (.int b), .ow (.lst (lf.map dTI)), t9, .no] ∧ lf ≠ [] ∧ (lf.length : Int) ≤ most ∧ lf.Nodup ∧ ∀ f ∈ lf, FG n k f
  obtain ⟨ρ', hf, lf, t2, t9, er, hne, hl, hnd, hff⟩ := for_inv (dc := false) (g := gN 2) (fb := (sSeq (sSet 9 (xPure gTuple (yCons (xPure gSort (yCons (xLc (xIt (xVar 2)) (gN 10) (xYes) (xBin gMod (xBin gAdd (xVar 10) (xVar 7)) (xVar 5)) [10]) (yNil))) (yNil)))) (sIf (xAnd (xCmpT gNin (xVar 9) (xVar 8)) (xCmpT gLt (xPure gLen (yCons (xVar 8) (yNil))) (xVar 1))) (sDo (xMutS isL mAppend (xVar 8) (xCons (xShK (xVar 9)) (xNil)))) (sSkip)))) dTI I fs [] [.ow (penD c3 m), .sh (.int most), .no, .sh (stk n k fs), .sh (stk n2 k2 fs2), .sh (.int n), .sh (.int k), .sh (.int b), .ow (.lst (fs.map dTI)), .no, .no] rfl ⟨fs, .no, .no, rfl, List.length_pos_iff.mp g.l1, gl, g.nd, fun f hf => ⟨⟨g.up f hf, g.rg f hf⟩, g.ln f hf⟩⟩ fun dn f rr ρ er ⟨lf, t2, t9, e, hne, hl, hnd, hff⟩ => by
    subst e
    have er : fs = dn ++ f :: rr := er
    have hfm : f ∈ fs := by rw [er]; simp
    have hfg : FG n k f := ⟨⟨g.up f hfm, g.rg f hfm⟩, g.ln f hfm⟩
    have hmv := moved_ok (b := b) (by omega) (by omega) hfg
    have k1 := lc_all (fi := xIt (xVar 2)) (g := gN 10) (fe := xBin gMod (xBin gAdd (xVar 10) (xVar 7)) (xVar 5)) (vs := [10]) (ρ := [.ow (penD c3 m), .sh (.int most), .sh (dTI f), .sh (stk n k fs), .sh (stk n2 k2 fs2), .sh (.int n), .sh (.int k), .sh (.int b), .ow (.lst (lf.map dTI)), t9, .no]) (u := none) (dc := false) (ρ1 := [.ow (penD c3 m), .sh (.int most), .sh (dTI f), .sh (stk n k fs), .sh (stk n2 k2 fs2), .sh (.int n), .sh (.int k), .sh (.int b), .ow (.lst (lf.map dTI)), t9, .no])
      D.int f (fun p => .int ((p + b).fmod n)) (fun p => [.ow (penD c3 m), .sh (.int most), .sh (dTI f), .sh (stk n k fs), .sh (stk n2 k2 fs2), .sh (.int n), .sh (.int k), .sh (.int b), .ow (.lst (lf.map dTI)), t9, .sh (.int p)]) rfl rfl (fun _ _ => rfl) (fun p _ => by simp [gAdd_i, gMod_i (b := (n : Int)) (by omega)]) (fun _ _ => ⟨rfl, rfl⟩)
    have em : (f.map fun p => D.int ((p + b).fmod n)) = (f.map fun p => (p + b).fmod n).map D.int := by rw [List.map_map]; rfl
    rw [em] at k1
    have s1 : sSet 9 (xPure gTuple (yCons (xPure gSort (yCons (xLc (xIt (xVar 2)) (gN 10) (xYes) (xBin gMod (xBin gAdd (xVar 10) (xVar 7)) (xVar 5)) [10]) (yNil))) (yNil))) [.ow (penD c3 m), .sh (.int most), .sh (dTI f), .sh (stk n k fs), .sh (stk n2 k2 fs2), .sh (.int n), .sh (.int k), .sh (.int b), .ow (.lst (lf.map dTI)), t9, .no] = some (.ok .nx [.ow (penD c3 m), .sh (.int most), .sh (dTI f), .sh (stk n k fs), .sh (stk n2 k2 fs2), .sh (.int n), .sh (.int k), .sh (.int b), .ow (.lst (lf.map dTI)), .sh (dTI (moved n b f)), .no]) := by
      rw [q_set, q_xTk, q_pure, q_yC, q_pure, q_yC, k1]
      simp only [q_bnd, q_unl0, q_yN, q_rdA, q_rd_ow, q_rdA0, Option.bind_some, Option.map_some, gSort_ints, gTuple_l]
      rfl
    have ct : (xAnd (xCmpT gNin (xVar 9) (xVar 8)) (xCmpT gLt (xPure gLen (yCons (xVar 8) (yNil))) (xVar 1))) [.ow (penD c3 m), .sh (.int most), .sh (dTI f), .sh (stk n k fs), .sh (stk n2 k2 fs2), .sh (.int n), .sh (.int k), .sh (.int b), .ow (.lst (lf.map dTI)), .sh (dTI (moved n b f)), .no] = some (.ok (!decide (moved n b f ∈ lf) && decide ((lf.length : Int) < most)) [.ow (penD c3 m), .sh (.int most), .sh (dTI f), .sh (stk n k fs), .sh (stk n2 k2 fs2), .sh (.int n), .sh (.int k), .sh (.int b), .ow (.lst (lf.map dTI)), .sh (dTI (moved n b f)), .no]) := by
      simp only [q_and, q_cmpT, q_var, List.getElem?_cons_succ, List.getElem?_cons_zero, q_bnd, q_rd_sh, q_rd_bw, Option.bind_some, gNin_tl, q_asBl, q_pure, q_yC, q_yN, q_rdA, q_rdA0, gLen_lT, Option.map_some, gLt]
      cases decide (moved n b f ∈ lf) <;> simp
    by_cases cc : (!decide (moved n b f ∈ lf) && decide ((lf.length : Int) < most)) = true
    · simp only [Bool.and_eq_true, Bool.not_eq_true', decide_eq_true_eq, decide_eq_false_iff_not] at cc
      refine ⟨_, [.ow (penD c3 m), .sh (.int most), .sh (dTI f), .sh (stk n k fs), .sh (stk n2 k2 fs2), .sh (.int n), .sh (.int k), .sh (.int b), .ow (.lst ((lf ++ [moved n b f]).map dTI)), .sh (dTI (moved n b f)), .no], rfl, ?_, lf ++ [moved n b f], _, _, rfl, by simp, by rw [List.length_append, List.length_singleton]; omega, List.nodup_append.mpr ⟨hnd, by simp, fun x hx y hy z => ?_⟩, fun q hq => ?_⟩
      · show sSeq _ _ [.ow (penD c3 m), .sh (.int most), .sh (dTI f), .sh (stk n k fs), .sh (stk n2 k2 fs2), .sh (.int n), .sh (.int k), .sh (.int b), .ow (.lst (lf.map dTI)), t9, .no] = _
        rw [q_seq, s1, q_bnd]
        dsimp only
        rw [q_if, ct, q_bnd, if_pos (by simp [cc]), q_do, q_append (ds := lf.map dTI) (x := dTI (moved n b f)) rfl (by rw [q_xC (q_shK rfl)]; rfl) (by rw [List.length_map]; omega), q_bnd, List.map_append]
        rfl
      · rw [List.mem_singleton.mp hy] at z
        subst z
        exact cc.1 hx
      · rcases List.mem_append.mp hq with hq | hq
        · exact hff q hq
        · rw [List.mem_singleton.mp hq]; exact hmv
    · refine ⟨_, [.ow (penD c3 m), .sh (.int most), .sh (dTI f), .sh (stk n k fs), .sh (stk n2 k2 fs2), .sh (.int n), .sh (.int k), .sh (.int b), .ow (.lst (lf.map dTI)), .sh (dTI (moved n b f)), .no], rfl, ?_, lf, _, _, rfl, hne, hl, hnd, hff⟩
      show sSeq _ _ [.ow (penD c3 m), .sh (.int most), .sh (dTI f), .sh (stk n k fs), .sh (stk n2 k2 fs2), .sh (.int n), .sh (.int k), .sh (.int b), .ow (.lst (lf.map dTI)), t9, .no] = _
      rw [q_seq, s1, q_bnd]
      dsimp only
      rw [q_if, ct, q_bnd, if_neg cc]
      rfl
  subst er
  have s4 : sFor (xIt (xBin gIx (xVar 3) (xC (.int 2)))) (gN 2) (sSeq (sSet 9 (xPure gTuple (yCons (xPure gSort (yCons (xLc (xIt (xVar 2)) (gN 10) (xYes) (xBin gMod (xBin gAdd (xVar 10) (xVar 7)) (xVar 5)) [10]) (yNil))) (yNil)))) (sIf (xAnd (xCmpT gNin (xVar 9) (xVar 8)) (xCmpT gLt (xPure gLen (yCons (xVar 8) (yNil))) (xVar 1))) (sDo (xMutS isL mAppend (xVar 8) (xCons (xShK (xVar 9)) (xNil)))) (sSkip))) [.ow (penD c3 m), .sh (.int most), .no, .sh (stk n k fs), .sh (stk n2 k2 fs2), .sh (.int n), .sh (.int k), .sh (.int b), .ow (.lst (fs.map dTI)), .no, .no] = some (.ok .nx [.ow (penD c3 m), .sh (.int most), t2, .sh (stk n k fs), .sh (stk n2 k2 fs2), .sh (.int n), .sh (.int k), .sh (.int b), .ow (.lst (lf.map dTI)), t9, .no]) := by
    refine for_eq (u := none) (dc := false) (ds := fs.map dTI) (ρ1 := [.ow (penD c3 m), .sh (.int most), .no, .sh (stk n k fs), .sh (stk n2 k2 fs2), .sh (.int n), .sh (.int k), .sh (.int b), .ow (.lst (fs.map dTI)), .no, .no]) ?_ hf
    simp [gIx2, -List.map_map]
  let out := sortT lf
  have go : GS0 n k out := ⟨hn1, hn8, g.k0, g.k1, g.k4, by
    show 1 ≤ (sortT lf).length
    rw [sortT_len]; exact List.length_pos_iff.mpr hne, by
    show (sortT lf).length ≤ 70
    rw [sortT_len]; omega, fun f hf => (hff f (sortT_mem.mp hf)).1.1, fun f hf => (hff f (sortT_mem.mp hf)).1.2, fun f hf => (hff f (sortT_mem.mp hf)).2, sortT_up hnd⟩
  have hol : (out.length : Int) ≤ most := by
    show ((sortT lf).length : Int) ≤ most
    rw [sortT_len]; exact hl
  obtain ⟨d, c4, e5, a5, b5⟩ := q_draw (c := c3) (m := m) (fe := xLn (xC (.int 4))) (many := 4) (ρt := [.sh (.int most), t2, .sh (stk n k fs), .sh (stk n2 k2 fs2), .sh (.int n), .sh (.int k), .sh (.int b), .ow (.lst (lf.map dTI)), t9, .no]) (by simp) (by omega) (by omega)
  have gs : gSort [.lst (lf.map dTI)] = some (.ow (.lst (out.map dTI))) := by
    show (sortL _).map (fun es => Val.ow (.lst es)) = _
    rw [sortL_tI]; rfl
  have e6 : (xLst (xCons (xSh (xTup (xCons (xShK (xVar 5)) (xCons (xShK (xVar 6)) (xCons (xSh (xPure gTuple (yCons (xPure gSort (yCons (xVar 8) (yNil))) (yNil)))) (xNil)))))) (xCons (xShK (xVar 4)) (xNil)))) [.ow (penD c3 m), .sh (.int most), t2, .sh (stk n k fs), .sh (stk n2 k2 fs2), .sh (.int n), .sh (.int k), .sh (.int b), .ow (.lst (lf.map dTI)), t9, .no] = some (.ok (.ow (.lst [stk n k out, stk n2 k2 fs2])) [.ow (penD c3 m), .sh (.int most), t2, .sh (stk n k fs), .sh (stk n2 k2 fs2), .sh (.int n), .sh (.int k), .sh (.int b), .ow (.lst (lf.map dTI)), t9, .no]) := by
    have ea : xSh (xTup (xCons (xShK (xVar 5)) (xCons (xShK (xVar 6)) (xCons (xSh (xPure gTuple (yCons (xPure gSort (yCons (xVar 8) (yNil))) (yNil)))) (xNil))))) [.ow (penD c3 m), .sh (.int most), t2, .sh (stk n k fs), .sh (stk n2 k2 fs2), .sh (.int n), .sh (.int k), .sh (.int b), .ow (.lst (lf.map dTI)), t9, .no] = some (.ok (.sh (stk n k out)) [.ow (penD c3 m), .sh (.int most), t2, .sh (stk n k fs), .sh (stk n2 k2 fs2), .sh (.int n), .sh (.int k), .sh (.int b), .ow (.lst (lf.map dTI)), t9, .no]) := by
      have eb : xSh (xPure gTuple (yCons (xPure gSort (yCons (xVar 8) (yNil))) (yNil))) [.ow (penD c3 m), .sh (.int most), t2, .sh (stk n k fs), .sh (stk n2 k2 fs2), .sh (.int n), .sh (.int k), .sh (.int b), .ow (.lst (lf.map dTI)), t9, .no] = some (.ok (.sh (.tup (out.map dTI))) [.ow (penD c3 m), .sh (.int most), t2, .sh (stk n k fs), .sh (stk n2 k2 fs2), .sh (.int n), .sh (.int k), .sh (.int b), .ow (.lst (lf.map dTI)), t9, .no]) := by
        simp only [q_xSh, q_pure, q_yC, q_yN, q_var, List.getElem?_cons_succ, List.getElem?_cons_zero, q_bnd, q_rdA, q_rdA0, q_rd_bw, q_rd_ow, Option.map_some, Option.bind_some, gs, gTuple_l, q_tk_sh, q_dat_sh]
      rw [q_xSh, q_tup, q_xC (q_shK (i := 5) rfl), q_xC (q_shK (i := 6) rfl), q_xC eb]
      rfl
    rw [q_lst, q_xC ea, q_xC (q_shK (i := 4) rfl)]
    rfl
  have e7 : xBin gFdiv (xCallIo φ__law_draw 0 (yCons (xVar 0) (yCons (xLn (xC (.int 4))) (yNil)))) (xC (.int 3)) [.ow (penD c3 m), .sh (.int most), t2, .sh (stk n k fs), .sh (stk n2 k2 fs2), .sh (.int n), .sh (.int k), .sh (.int b), .ow (.lst (lf.map dTI)), t9, .no] = some (.ok (.sh (.int (d.fdiv 3))) [.ow (penD c4 m), .sh (.int most), t2, .sh (stk n k fs), .sh (stk n2 k2 fs2), .sh (.int n), .sh (.int k), .sh (.int b), .ow (.lst (lf.map dTI)), t9, .no]) := by
    rw [q_bin, e5, q_bnd]
    simp [gFdiv_i (b := 3) (by omega) (by omega)]
  have hd : d.fdiv 3 = 0 ∨ d.fdiv 3 = 1 := by
    rw [Int.fdiv_eq_ediv_of_nonneg _ (by omega)]; omega
  have fin : ∀ (x : D), gIx (.lst [stk n k out, stk n2 k2 fs2]) (.int (d.fdiv 3)) = some (.sh x) → φ__law_barred [penD c0 m, .int most] = some (.ok (.sh x) (penD c4 m)) := fun x hx => by
    refine runIo_sh rfl (ρ' := [.sh (.int most), t2, .sh (stk n k fs), .sh (stk n2 k2 fs2), .sh (.int n), .sh (.int k), .sh (.int b), .ow (.lst (lf.map dTI)), t9, .no]) ?_
    show fB__law_barred [.ow (penD c0 m), .sh (.int most), .no, .no, .no, .no, .no, .no, .no, .no, .no] = _
    unfold fB__law_barred
    rw [q_seq, s1, q_bnd]
    dsimp only [List.set_cons_succ, List.set_cons_zero]
    rw [q_seq, s2, q_bnd]
    dsimp only
    rw [q_seq, s3, q_bnd]
    dsimp only
    rw [q_seq, s4, q_bnd]
    dsimp only
    rw [q_ret, q_xTk, q_binIx e6 e7 (D0 := .lst [stk n k out, stk n2 k2 fs2]) rfl hx]
    rfl
  rcases hd with hd | hd
  · exact ⟨c4, n, k, out, fin _ (by rw [hd]; rfl), go, hol⟩
  · exact ⟨c4, n2, k2, fs2, fin _ (by rw [hd]; rfl), g2, gl2⟩
end K21

set_option Elab.async false
set_option linter.all false
set_option maxRecDepth 100000
set_option maxHeartbeats 1000000
/-! k21: the law. -/
namespace K21
open PySem PySem.Spec L2 Lf
def nineF : List (List Int) := [[0, 1, 2], [0, 1, 5], [0, 2, 4], [1, 2, 3], [1, 3, 4], [1, 4, 5], [2, 3, 5], [2, 4, 5], [3, 4, 5]]
theorem nine_ok : GS 6 3 nineF := ⟨⟨by decide, by decide, by decide, by decide, by decide, by decide, by decide, by decide, by decide, by decide, by decide⟩, by decide⟩
theorem e_cell0 (ns : List Int) : ∃ c : Int, φ__law_cell [.lst (ns.map .int), .int 0] = some (.ok (.sh (.int c)) .non) := by
  cases ns with
  | nil => exact ⟨0, rfl⟩
  | cons x xs =>
    refine ⟨x, ?_⟩
    refine run_sh rfl [.sh (.lst ((x :: xs).map .int)), .sh (.int 0)] ?_
    show fB__law_cell [.sh (.lst ((x :: xs).map .int)), .sh (.int 0)] = _
    have l : gLen [.lst ((x :: xs).map .int)] = some (.sh (.int ((xs.length + 1 : Nat) : Int))) := by
      show some (Val.sh (.int (((x :: xs).map D.int).length : Nat))) = _
      rw [List.length_map]; rfl
    have ix : gIx (.lst ((x :: xs).map .int)) (.int 0) = some (.sh (.int x)) := by
      show (atI _ ((0 : Nat) : Int)).map Val.sh = _
      rw [atI_nat (x := D.int x) rfl]; rfl
    have lt : gLt (.int 0) (.int ((xs.length + 1 : Nat) : Int)) = some (.sh (.bl true)) := by
      show some (Val.sh (.bl (decide ((0 : Int) < ((xs.length + 1 : Nat) : Int))))) = _
      rw [decide_eq_true (by omega)]
    have ct : xCmpT gLt (xVar 1) (xPure gLen (yCons (xVar 0) (yNil))) [.sh (.lst ((x :: xs).map .int)), .sh (.int 0)] = some (.ok true [.sh (.lst ((x :: xs).map .int)), .sh (.int 0)]) := by
      simp only [q_cmpT, q_var, List.getElem?_cons_succ, List.getElem?_cons_zero, q_bnd, q_pure, q_yC, q_yN, q_rdA, q_rdA0, q_rd_sh, Option.bind_some, Option.map_some, l, lt, q_asBl]
    unfold fB__law_cell
    rw [q_seq, q_if, ct, q_bnd, if_pos rfl, q_ret, q_xTk, q_bin]
    simp only [q_var, List.getElem?_cons_succ, List.getElem?_cons_zero, q_bnd, q_fin2, q_rd_sh, Option.bind_some, ix, Option.map_some, q_tk_sh]
theorem e_pen (c : Int) : ∃ m : Int, φ__law_pen [.int c] = some (.ok (.ow (penD c m)) .non) := by
  refine ⟨if decide (1000000000000000000 ≤ c) then 1 else 0, ?_⟩
  refine run_ow rfl [.sh (.int c)] ?_
  show fB__law_pen [.sh (.int c)] = _
  have e0 : gPow (.int 10) (.int 18) = some (.sh (.int 1000000000000000000)) := by
    show (if decide (0 ≤ (18 : Int) ∧ (18 : Int) ≤ 1000000 ∧ (10 : Int).natAbs < 2 ^ 64) = true then some (Val.sh (.int ((10 : Int) ^ (18 : Int).toNat))) else none) = _
    rw [if_pos (by decide +kernel), show (10 : Int) ^ (18 : Int).toNat = 1000000000000000000 by decide +kernel]
  have e1 : xSh (xPure gInt (yCons (xBin gGe (xVar 0) (xBin gPow (xC (.int 10)) (xC (.int 18)))) (yNil))) [.sh (.int c)] = some (.ok (.sh (.int (if decide (1000000000000000000 ≤ c) then 1 else 0))) [.sh (.int c)]) := by
    simp only [q_xSh, q_pure, q_yC, q_yN, q_bin, q_var, List.getElem?_cons_zero, q_bnd, q_c, q_fin2, q_rd_sh, Option.bind_some, e0, Option.map_some, q_rdA, q_rdA0]
    rfl
  unfold fB__law_pen
  rw [q_ret, q_xTk, q_lst, q_xC (q_shK (i := 0) rfl), q_xC e1]
  rfl
theorem cell_items (ns : List Int) (c : Int) : ∃ cs : List Int, gAdd (.lst [.int c]) (.lst (cutD (ns.map .int) (some 1) (some 2))) = some (.ow (.lst (cs.map .int))) := by
  obtain ⟨ys, e, hl⟩ : ∃ ys : List Int, cutD (ns.map D.int) (some 1) (some 2) = ys.map .int ∧ ys.length ≤ 2 := by
    unfold cutD
    refine ⟨(ns.drop (HT.sIx (ns.map D.int).length 0 (some 1))).take (HT.sIx (ns.map D.int).length (ns.map D.int).length (some 2) - HT.sIx (ns.map D.int).length 0 (some 1)), by rw [List.map_take, List.map_drop], ?_⟩
    rw [List.length_take]
    have : HT.sIx (ns.map D.int).length (ns.map D.int).length (some 2) ≤ 2 := by
      show HT.sIx _ _ (some ((2 : Nat) : Int)) ≤ 2
      rw [HT.sIx_nat]; omega
    omega
  refine ⟨c :: ys, ?_⟩
  rw [e]
  have := gAdd_lI (a := [c]) (b := ys) (by
    have := sz9
    rw [List.length_singleton]; omega)
  exact this
theorem law_true (ns : List Int) (h63 : ns.length ≤ 63) : φ_law [.lst (ns.map .int)] = some (.ok (.sh (.bl true)) .non) := by
  let SC : D := .lst (ns.map .int)
  obtain ⟨so, eso⟩ : ∃ so : D, so = .tup (([[0, 1, 2], [0, 1, 5], [0, 2, 4], [1, 2, 3], [1, 3, 4], [1, 4, 5]] : List (List Int)).map dTI) := ⟨_, rfl⟩
  have s1 : sSet 1 (xTup (xCons (xSh (xTup (xCons (xSh (xC (.int 0))) (xCons (xSh (xC (.int 1))) (xCons (xSh (xC (.int 2))) (xNil)))))) (xCons (xSh (xTup (xCons (xSh (xC (.int 0))) (xCons (xSh (xC (.int 1))) (xCons (xSh (xC (.int 5))) (xNil)))))) (xCons (xSh (xTup (xCons (xSh (xC (.int 0))) (xCons (xSh (xC (.int 2))) (xCons (xSh (xC (.int 4))) (xNil)))))) (xCons (xSh (xTup (xCons (xSh (xC (.int 1))) (xCons (xSh (xC (.int 2))) (xCons (xSh (xC (.int 3))) (xNil)))))) (xCons (xSh (xTup (xCons (xSh (xC (.int 1))) (xCons (xSh (xC (.int 3))) (xCons (xSh (xC (.int 4))) (xNil)))))) (xCons (xSh (xTup (xCons (xSh (xC (.int 1))) (xCons (xSh (xC (.int 4))) (xCons (xSh (xC (.int 5))) (xNil)))))) (xNil)))))))) [.sh SC, .no, .no, .no, .no] = some (.ok .nx [.sh SC, .sh so, .no, .no, .no]) := by rw [eso]; rfl
  have s2 : sSet 2 (xTup (xCons (xSh (xC (.int 6))) (xCons (xSh (xC (.int 3))) (xCons (xSh (xBin gAdd (xVar 1) (xTup (xCons (xSh (xTup (xCons (xSh (xC (.int 2))) (xCons (xSh (xC (.int 3))) (xCons (xSh (xC (.int 5))) (xNil)))))) (xCons (xSh (xTup (xCons (xSh (xC (.int 2))) (xCons (xSh (xC (.int 4))) (xCons (xSh (xC (.int 5))) (xNil)))))) (xCons (xSh (xTup (xCons (xSh (xC (.int 3))) (xCons (xSh (xC (.int 4))) (xCons (xSh (xC (.int 5))) (xNil)))))) (xNil))))))) (xNil))))) [.sh SC, .sh so, .no, .no, .no] = some (.ok .nx [.sh SC, .sh so, .sh (stk 6 3 nineF), .no, .no]) := by
    have ea : gAdd so (.tup (([[2, 3, 5], [2, 4, 5], [3, 4, 5]] : List (List Int)).map dTI)) = some (.sh (.tup (nineF.map dTI))) := by
      rw [eso]
      show (if 6 + 3 ≤ sizeLine then some (Val.sh (.tup _)) else none) = _
      rw [if_pos (by have := sz9; omega)]
      rfl
    have eb : xSh (xBin gAdd (xVar 1) (xTup (xCons (xSh (xTup (xCons (xSh (xC (.int 2))) (xCons (xSh (xC (.int 3))) (xCons (xSh (xC (.int 5))) (xNil)))))) (xCons (xSh (xTup (xCons (xSh (xC (.int 2))) (xCons (xSh (xC (.int 4))) (xCons (xSh (xC (.int 5))) (xNil)))))) (xCons (xSh (xTup (xCons (xSh (xC (.int 3))) (xCons (xSh (xC (.int 4))) (xCons (xSh (xC (.int 5))) (xNil)))))) (xNil)))))) [.sh SC, .sh so, .no, .no, .no] = some (.ok (.sh (.tup (nineF.map dTI))) [.sh SC, .sh so, .no, .no, .no]) := by
      have ec : (xTup (xCons (xSh (xTup (xCons (xSh (xC (.int 2))) (xCons (xSh (xC (.int 3))) (xCons (xSh (xC (.int 5))) (xNil)))))) (xCons (xSh (xTup (xCons (xSh (xC (.int 2))) (xCons (xSh (xC (.int 4))) (xCons (xSh (xC (.int 5))) (xNil)))))) (xCons (xSh (xTup (xCons (xSh (xC (.int 3))) (xCons (xSh (xC (.int 4))) (xCons (xSh (xC (.int 5))) (xNil)))))) (xNil))))) [.sh SC, .sh so, .no, .no, .no] = some (.ok (.sh (.tup (([[2, 3, 5], [2, 4, 5], [3, 4, 5]] : List (List Int)).map dTI))) [.sh SC, .sh so, .no, .no, .no]) := rfl
      rw [q_xSh, q_bin, q_var]
      dsimp only [List.getElem?_cons_succ, List.getElem?_cons_zero]
      rw [q_bnd, ec, q_bnd, q_fin2, q_rd_sh, q_rd_sh, Option.bind_some, Option.bind_some, ea]
      rfl
    have e6 : xSh (xC (.int 6)) [.sh SC, .sh so, .no, .no, .no] = some (.ok (.sh (.int 6)) [.sh SC, .sh so, .no, .no, .no]) := rfl
    have e3 : xSh (xC (.int 3)) [.sh SC, .sh so, .no, .no, .no] = some (.ok (.sh (.int 3)) [.sh SC, .sh so, .no, .no, .no]) := rfl
    rw [q_set, q_xTk, q_tup, q_xC e6, q_xC e3, q_xC eb]
    rfl
  have s3 : sIf (xNot (xTr (xCall φ__law_right (yCons (xVar 2) (yNil))))) (sRet (xC (.bl false))) (sSkip) [.sh SC, .sh so, .sh (stk 6 3 nineF), .no, .no] = some (.ok .nx [.sh SC, .sh so, .sh (stk 6 3 nineF), .no, .no]) := by
    have ea : xCall φ__law_right (yCons (xVar 2) (yNil)) [.sh SC, .sh so, .sh (stk 6 3 nineF), .no, .no] = some (.ok (.sh (.bl true)) [.sh SC, .sh so, .sh (stk 6 3 nineF), .no, .no]) := q_call_eq rfl rfl (e_right nine_ok) rfl
    rw [q_if, q_not, q_tr, ea]
    rfl
  obtain ⟨c, ec⟩ := e_cell0 ns
  obtain ⟨cs, ecs⟩ := cell_items ns c
  let I : List Int → Lf.Env → Prop := fun _ ρ => ∃ t3 t4 : Slot, ρ = [.sh SC, .sh so, .sh (stk 6 3 nineF), t3, t4]
  have hbody : ∀ (t4 : Slot) (x : Int), ∃ t4', (sSeq (sSet 4 (xCall φ__law_pen (yCons (xVar 3) (yNil)))) (sIf (xNot (xTr (xCall φ__law_right (yCons (xLn (xCallIo φ__law_barred 4 (yCons (xVar 4) (yCons (xLn (xC (.int 8))) (yNil))))) (yNil))))) (sRet (xC (.bl false))) (sSkip))) [.sh SC, .sh so, .sh (stk 6 3 nineF), .sh (.int x), t4] = some (.ok .nx [.sh SC, .sh so, .sh (stk 6 3 nineF), .sh (.int x), t4']) := fun t4 x => by
    obtain ⟨m, em⟩ := e_pen x
    obtain ⟨c', n, k, fs, eb, g, gl⟩ := e_barred x m (most := 8) (by omega) (by omega)
    have s4 : sSet 4 (xCall φ__law_pen (yCons (xVar 3) (yNil))) [.sh SC, .sh so, .sh (stk 6 3 nineF), .sh (.int x), t4] = some (.ok .nx [.sh SC, .sh so, .sh (stk 6 3 nineF), .sh (.int x), .ow (penD x m)]) := by
      rw [q_set, q_xTk, q_call_eq (rs := [.sh (.int x)]) rfl rfl em rfl]
      rfl
    have e5 : xCallIo φ__law_barred 4 (yCons (xVar 4) (yCons (xLn (xC (.int 8))) (yNil))) [.sh SC, .sh so, .sh (stk 6 3 nineF), .sh (.int x), .ow (penD x m)] = some (.ok (.sh (stk n k fs)) [.sh SC, .sh so, .sh (stk 6 3 nineF), .sh (.int x), .ow (penD c' m)]) :=
      q_callIo1 (i := 4) (x := .int 8) (ρ1 := [.sh SC, .sh so, .sh (stk 6 3 nineF), .sh (.int x), .ow (penD x m)]) rfl rfl eb rfl rfl
    have e6 : xCall φ__law_right (yCons (xLn (xCallIo φ__law_barred 4 (yCons (xVar 4) (yCons (xLn (xC (.int 8))) (yNil))))) (yNil)) [.sh SC, .sh so, .sh (stk 6 3 nineF), .sh (.int x), .ow (penD x m)] = some (.ok (.sh (.bl true)) [.sh SC, .sh so, .sh (stk 6 3 nineF), .sh (.int x), .ow (penD c' m)]) := by
      refine q_call_eq (rs := [.sh (stk n k fs)]) ?_ rfl (e_right ⟨g, by omega⟩) rfl
      rw [q_yC, q_ln, e5]
      rfl
    refine ⟨.ow (penD c' m), ?_⟩
    rw [q_seq, s4, q_bnd]
    dsimp only
    rw [q_if, q_not, q_tr, e6]
    rfl
  obtain ⟨ρ', hf, t3, t4, er⟩ := for_inv (dc := false) (g := gN 3) (fb := (sSeq (sSet 4 (xCall φ__law_pen (yCons (xVar 3) (yNil)))) (sIf (xNot (xTr (xCall φ__law_right (yCons (xLn (xCallIo φ__law_barred 4 (yCons (xVar 4) (yCons (xLn (xC (.int 8))) (yNil))))) (yNil))))) (sRet (xC (.bl false))) (sSkip)))) D.int I cs [] [.sh SC, .sh so, .sh (stk 6 3 nineF), .no, .no] rfl ⟨.no, .no, rfl⟩ fun dn x rr ρ er ⟨t3, t4, e⟩ => by
    subst e
    obtain ⟨t4', e⟩ := hbody t4 x
    exact ⟨_, _, rfl, e, _, _, rfl⟩
  subst er
  have s5 : sFor (xIt (xBin gAdd (xLst (xCons (xSh (xCall φ__law_cell (yCons (xVar 0) (yCons (xLn (xC (.int 0))) (yNil))))) (xNil))) (xSl (xVar 0) (oAt (xC (.int 1))) (oAt (xC (.int 2)))))) (gN 3) (sSeq (sSet 4 (xCall φ__law_pen (yCons (xVar 3) (yNil)))) (sIf (xNot (xTr (xCall φ__law_right (yCons (xLn (xCallIo φ__law_barred 4 (yCons (xVar 4) (yCons (xLn (xC (.int 8))) (yNil))))) (yNil))))) (sRet (xC (.bl false))) (sSkip))) [.sh SC, .sh so, .sh (stk 6 3 nineF), .no, .no] = some (.ok .nx [.sh SC, .sh so, .sh (stk 6 3 nineF), t3, t4]) := by
    refine for_eq (u := none) (dc := false) (ds := cs.map .int) (ρ1 := [.sh SC, .sh so, .sh (stk 6 3 nineF), .no, .no]) ?_ hf
    have e1 : xLst (xCons (xSh (xCall φ__law_cell (yCons (xVar 0) (yCons (xLn (xC (.int 0))) (yNil))))) (xNil)) [.sh SC, .sh so, .sh (stk 6 3 nineF), .no, .no] = some (.ok (.ow (.lst [.int c])) [.sh SC, .sh so, .sh (stk 6 3 nineF), .no, .no]) := by
      rw [q_lst, q_xC1 (q_call_eq (rs := [.sh SC, .sh (.int 0)]) rfl rfl ec rfl)]
      rfl
    have e2 : xSl (xVar 0) (oAt (xC (.int 1))) (oAt (xC (.int 2))) [.sh SC, .sh so, .sh (stk 6 3 nineF), .no, .no] = some (.ok (.ow (.lst (cutD (ns.map .int) (some 1) (some 2)))) [.sh SC, .sh so, .sh (stk 6 3 nineF), .no, .no]) := rfl
    rw [q_it, q_bin, e1, q_bnd, e2, q_bnd, q_fin2, q_rd_ow, q_rd_ow, Option.bind_some, Option.bind_some, ecs]
    rfl
  refine run_sh rfl [.sh SC, .sh so, .sh (stk 6 3 nineF), t3, t4] ?_
  show fB_law [.sh SC, .no, .no, .no, .no] = _
  unfold fB_law
  rw [q_seq, s1, q_bnd]
  dsimp only
  rw [q_seq, s2, q_bnd]
  dsimp only
  rw [q_seq, s3, q_bnd]
  dsimp only
  rw [q_seq, s5, q_bnd]
  rfl
end K21

set_option Elab.async false
set_option linter.all false
set_option maxRecDepth 100000
set_option maxHeartbeats 4000000
namespace K21
open PySem PySem.Spec L2 Lf
theorem all_mk {P : Program} {w : World} {K : PySem.W.Frag} {h : Heap} {mg : Str → Option Value} {fa : Addr}
    {f0 : Addr} {od0 an0 : Option Addr} {sl0 : Array (Option Value)} {oc0 kV0 dc0 pm0 cd0 ct0 : Value}
    {f1 : Addr} {od1 an1 : Option Addr} {sl1 : Array (Option Value)} {oc1 kV1 dc1 pm1 cd1 ct1 : Value}
    {f2 : Addr} {od2 an2 : Option Addr} {sl2 : Array (Option Value)} {oc2 kV2 dc2 pm2 cd2 ct2 : Value}
    {f3 : Addr} {od3 an3 : Option Addr} {sl3 : Array (Option Value)} {oc3 kV3 dc3 pm3 cd3 ct3 : Value}
    {f4 : Addr} {od4 an4 : Option Addr} {sl4 : Array (Option Value)} {oc4 kV4 dc4 pm4 cd4 ct4 : Value}
    {f5 : Addr} {od5 an5 : Option Addr} {sl5 : Array (Option Value)} {oc5 kV5 dc5 pm5 cd5 ct5 : Value}
    {f6 : Addr} {od6 an6 : Option Addr} {sl6 : Array (Option Value)} {oc6 kV6 dc6 pm6 cd6 ct6 : Value}
    {f7 : Addr} {od7 an7 : Option Addr} {sl7 : Array (Option Value)} {oc7 kV7 dc7 pm7 cd7 ct7 : Value}
    {f8 : Addr} {od8 an8 : Option Addr} {sl8 : Array (Option Value)} {oc8 kV8 dc8 pm8 cd8 ct8 : Value}
    {f9 : Addr} {od9 an9 : Option Addr} {sl9 : Array (Option Value)} {oc9 kV9 dc9 pm9 cd9 ct9 : Value}
    {f10 : Addr} {od10 an10 : Option Addr} {sl10 : Array (Option Value)} {oc10 kV10 dc10 pm10 cd10 ct10 : Value}
    {f11 : Addr} {od11 an11 : Option Addr} {sl11 : Array (Option Value)} {oc11 kV11 dc11 pm11 cd11 ct11 : Value}
    {f12 : Addr} {od12 an12 : Option Addr} {sl12 : Array (Option Value)} {oc12 kV12 dc12 pm12 cd12 ct12 : Value}
    {f13 : Addr} {od13 an13 : Option Addr} {sl13 : Array (Option Value)} {oc13 kV13 dc13 pm13 cd13 ct13 : Value}
    {f14 : Addr} {od14 an14 : Option Addr} {sl14 : Array (Option Value)} {oc14 kV14 dc14 pm14 cd14 ct14 : Value}
    {f15 : Addr} {od15 an15 : Option Addr} {sl15 : Array (Option Value)} {oc15 kV15 dc15 pm15 cd15 ct15 : Value}
    {f16 : Addr} {od16 an16 : Option Addr} {sl16 : Array (Option Value)} {oc16 kV16 dc16 pm16 cd16 ct16 : Value}
    {f17 : Addr} {od17 an17 : Option Addr} {sl17 : Array (Option Value)} {oc17 kV17 dc17 pm17 cd17 ct17 : Value}
    {f18 : Addr} {od18 an18 : Option Addr} {sl18 : Array (Option Value)} {oc18 kV18 dc18 pm18 cd18 ct18 : Value}
    {f19 : Addr} {od19 an19 : Option Addr} {sl19 : Array (Option Value)} {oc19 kV19 dc19 pm19 cd19 ct19 : Value}
    {f20 : Addr} {od20 an20 : Option Addr} {sl20 : Array (Option Value)} {oc20 kV20 dc20 pm20 cd20 ct20 : Value}
    {f21 : Addr} {od21 an21 : Option Addr} {sl21 : Array (Option Value)} {oc21 kV21 dc21 pm21 cd21 ct21 : Value}
    {f22 : Addr} {od22 an22 : Option Addr} {sl22 : Array (Option Value)} {oc22 kV22 dc22 pm22 cd22 ct22 : Value}
    {f23 : Addr} {od23 an23 : Option Addr} {sl23 : Array (Option Value)} {oc23 kV23 dc23 pm23 cd23 ct23 : Value}
    {f24 : Addr} {od24 an24 : Option Addr} {sl24 : Array (Option Value)} {oc24 kV24 dc24 pm24 cd24 ct24 : Value}
    {f25 : Addr} {od25 an25 : Option Addr} {sl25 : Array (Option Value)} {oc25 kV25 dc25 pm25 cd25 ct25 : Value}
    {f26 : Addr} {od26 an26 : Option Addr} {sl26 : Array (Option Value)} {oc26 kV26 dc26 pm26 cd26 ct26 : Value}
    {f27 : Addr} {od27 an27 : Option Addr} {sl27 : Array (Option Value)} {oc27 kV27 dc27 pm27 cd27 ct27 : Value}
    {f28 : Addr} {od28 an28 : Option Addr} {sl28 : Array (Option Value)} {oc28 kV28 dc28 pm28 cd28 ct28 : Value}
    {f29 : Addr} {od29 an29 : Option Addr} {sl29 : Array (Option Value)} {oc29 kV29 dc29 pm29 cd29 ct29 : Value}
    {f30 : Addr} {od30 an30 : Option Addr} {sl30 : Array (Option Value)} {oc30 kV30 dc30 pm30 cd30 ct30 : Value}
    {f31 : Addr} {od31 an31 : Option Addr} {sl31 : Array (Option Value)} {oc31 kV31 dc31 pm31 cd31 ct31 : Value}
    {f32 : Addr} {od32 an32 : Option Addr} {sl32 : Array (Option Value)} {oc32 kV32 dc32 pm32 cd32 ct32 : Value}
    {t_MOST_FACES : Tok}
    {t_MOST_POINTS : Tok}
    {t_MOST_SEARCHED : Tok}
    {t_MOST_TAKEN : Tok}
    (X : K.In h) (G : h.Ns mainGlobals mg) (hfa : mg "law" = some (.ref fa))
    (a0 : PySem.W.nsIn K mainGlobals "is_whole" = some (some (.ref f0))) (l0 : K.lookup f0 = some ⟨oc0, od0, .func (PySem.W.fnOf "is_whole" "is_whole" (defArgs s_is_whole) (defBody s_is_whole) (defScope s_is_whole) .none kV0 dc0 pm0 an0 cd0 ct0), sl0⟩) (c0 : PySem.W.codeIn K cd0 "is_whole" = true) (k0 : PySem.W.keepIn K (.ref f0) = true)
    (a1 : PySem.W.nsIn K mainGlobals "is_from" = some (some (.ref f1))) (l1 : K.lookup f1 = some ⟨oc1, od1, .func (PySem.W.fnOf "is_from" "is_from" (defArgs s_is_from) (defBody s_is_from) (defScope s_is_from) .none kV1 dc1 pm1 an1 cd1 ct1), sl1⟩) (c1 : PySem.W.codeIn K cd1 "is_from" = true) (k1 : PySem.W.keepIn K (.ref f1) = true)
    (a2 : PySem.W.nsIn K mainGlobals "are_rising" = some (some (.ref f2))) (l2 : K.lookup f2 = some ⟨oc2, od2, .func (PySem.W.fnOf "are_rising" "are_rising" (defArgs s_are_rising) (defBody s_are_rising) (defScope s_are_rising) .none kV2 dc2 pm2 an2 cd2 ct2), sl2⟩) (c2 : PySem.W.codeIn K cd2 "are_rising" = true) (k2 : PySem.W.keepIn K (.ref f2) = true)
    (a3 : PySem.W.nsIn K mainGlobals "are_faces" = some (some (.ref f3))) (l3 : K.lookup f3 = some ⟨oc3, od3, .func (PySem.W.fnOf "are_faces" "are_faces" (defArgs s_are_faces) (defBody s_are_faces) (defScope s_are_faces) .none kV3 dc3 pm3 an3 cd3 ct3), sl3⟩) (c3 : PySem.W.codeIn K cd3 "are_faces" = true) (k3 : PySem.W.keepIn K (.ref f3) = true)
    (a4 : PySem.W.nsIn K mainGlobals "is_stack" = some (some (.ref f4))) (l4 : K.lookup f4 = some ⟨oc4, od4, .func (PySem.W.fnOf "is_stack" "is_stack" (defArgs s_is_stack) (defBody s_is_stack) (defScope s_is_stack) .none kV4 dc4 pm4 an4 cd4 ct4), sl4⟩) (c4 : PySem.W.codeIn K cd4 "is_stack" = true) (k4 : PySem.W.keepIn K (.ref f4) = true)
    (a5 : PySem.W.nsIn K mainGlobals "must_stack" = some (some (.ref f5))) (l5 : K.lookup f5 = some ⟨oc5, od5, .func (PySem.W.fnOf "must_stack" "must_stack" (defArgs s_must_stack) (defBody s_must_stack) (defScope s_must_stack) .none kV5 dc5 pm5 an5 cd5 ct5), sl5⟩) (c5 : PySem.W.codeIn K cd5 "must_stack" = true) (k5 : PySem.W.keepIn K (.ref f5) = true)
    (a6 : PySem.W.nsIn K mainGlobals "within" = some (some (.ref f6))) (l6 : K.lookup f6 = some ⟨oc6, od6, .func (PySem.W.fnOf "within" "within" (defArgs s_within) (defBody s_within) (defScope s_within) .none kV6 dc6 pm6 an6 cd6 ct6), sl6⟩) (c6 : PySem.W.codeIn K cd6 "within" = true) (k6 : PySem.W.keepIn K (.ref f6) = true)
    (a7 : PySem.W.nsIn K mainGlobals "faces_at" = some (some (.ref f7))) (l7 : K.lookup f7 = some ⟨oc7, od7, .func (PySem.W.fnOf "faces_at" "faces_at" (defArgs s_faces_at) (defBody s_faces_at) (defScope s_faces_at) .none kV7 dc7 pm7 an7 cd7 ct7), sl7⟩) (c7 : PySem.W.codeIn K cd7 "faces_at" = true) (k7 : PySem.W.keepIn K (.ref f7) = true)
    (a8 : PySem.W.nsIn K mainGlobals "brought_by" = some (some (.ref f8))) (l8 : K.lookup f8 = some ⟨oc8, od8, .func (PySem.W.fnOf "brought_by" "brought_by" (defArgs s_brought_by) (defBody s_brought_by) (defScope s_brought_by) .none kV8 dc8 pm8 an8 cd8 ct8), sl8⟩) (c8 : PySem.W.codeIn K cd8 "brought_by" = true) (k8 : PySem.W.keepIn K (.ref f8) = true)
    (a9 : PySem.W.nsIn K mainGlobals "face_may" = some (some (.ref f9))) (l9 : K.lookup f9 = some ⟨oc9, od9, .func (PySem.W.fnOf "face_may" "face_may" (defArgs s_face_may) (defBody s_face_may) (defScope s_face_may) .none kV9 dc9 pm9 an9 cd9 ct9), sl9⟩) (c9 : PySem.W.codeIn K cd9 "face_may" = true) (k9 : PySem.W.keepIn K (.ref f9) = true)
    (a10 : PySem.W.nsIn K mainGlobals "must_few" = some (some (.ref f10))) (l10 : K.lookup f10 = some ⟨oc10, od10, .func (PySem.W.fnOf "must_few" "must_few" (defArgs s_must_few) (defBody s_must_few) (defScope s_must_few) .none kV10 dc10 pm10 an10 cd10 ct10), sl10⟩) (c10 : PySem.W.codeIn K cd10 "must_few" = true) (k10 : PySem.W.keepIn K (.ref f10) = true)
    (a11 : PySem.W.nsIn K mainGlobals "must_searched" = some (some (.ref f11))) (l11 : K.lookup f11 = some ⟨oc11, od11, .func (PySem.W.fnOf "must_searched" "must_searched" (defArgs s_must_searched) (defBody s_must_searched) (defScope s_must_searched) .none kV11 dc11 pm11 an11 cd11 ct11), sl11⟩) (c11 : PySem.W.codeIn K cd11 "must_searched" = true) (k11 : PySem.W.keepIn K (.ref f11) = true)
    (a12 : PySem.W.nsIn K mainGlobals "steps_on" = some (some (.ref f12))) (l12 : K.lookup f12 = some ⟨oc12, od12, .func (PySem.W.fnOf "steps_on" "steps_on" (defArgs s_steps_on) (defBody s_steps_on) (defScope s_steps_on) .none kV12 dc12 pm12 an12 cd12 ct12), sl12⟩) (c12 : PySem.W.codeIn K cd12 "steps_on" = true) (k12 : PySem.W.keepIn K (.ref f12) = true)
    (a13 : PySem.W.nsIn K mainGlobals "put_to" = some (some (.ref f13))) (l13 : K.lookup f13 = some ⟨oc13, od13, .func (PySem.W.fnOf "put_to" "put_to" (defArgs s_put_to) (defBody s_put_to) (defScope s_put_to) .none kV13 dc13 pm13 an13 cd13 ct13), sl13⟩) (c13 : PySem.W.codeIn K cd13 "put_to" = true) (k13 : PySem.W.keepIn K (.ref f13) = true)
    (a14 : PySem.W.nsIn K mainGlobals "laid_of" = some (some (.ref f14))) (l14 : K.lookup f14 = some ⟨oc14, od14, .func (PySem.W.fnOf "laid_of" "laid_of" (defArgs s_laid_of) (defBody s_laid_of) (defScope s_laid_of) .none kV14 dc14 pm14 an14 cd14 ct14), sl14⟩) (c14 : PySem.W.codeIn K cd14 "laid_of" = true) (k14 : PySem.W.keepIn K (.ref f14) = true)
    (a15 : PySem.W.nsIn K mainGlobals "laid_lots" = some (some (.ref f15))) (l15 : K.lookup f15 = some ⟨oc15, od15, .func (PySem.W.fnOf "laid_lots" "laid_lots" (defArgs s_laid_lots) (defBody s_laid_lots) (defScope s_laid_lots) .none kV15 dc15 pm15 an15 cd15 ct15), sl15⟩) (c15 : PySem.W.codeIn K cd15 "laid_lots" = true) (k15 : PySem.W.keepIn K (.ref f15) = true)
    (a16 : PySem.W.nsIn K mainGlobals "most_laid" = some (some (.ref f16))) (l16 : K.lookup f16 = some ⟨oc16, od16, .func (PySem.W.fnOf "most_laid" "most_laid" (defArgs s_most_laid) (defBody s_most_laid) (defScope s_most_laid) .none kV16 dc16 pm16 an16 cd16 ct16), sl16⟩) (c16 : PySem.W.codeIn K cd16 "most_laid" = true) (k16 : PySem.W.keepIn K (.ref f16) = true)
    (a17 : PySem.W.nsIn K mainGlobals "stuck_lots" = some (some (.ref f17))) (l17 : K.lookup f17 = some ⟨oc17, od17, .func (PySem.W.fnOf "stuck_lots" "stuck_lots" (defArgs s_stuck_lots) (defBody s_stuck_lots) (defScope s_stuck_lots) .none kV17 dc17 pm17 an17 cd17 ct17), sl17⟩) (c17 : PySem.W.codeIn K cd17 "stuck_lots" = true) (k17 : PySem.W.keepIn K (.ref f17) = true)
    (a18 : PySem.W.nsIn K mainGlobals "_law_same" = some (some (.ref f18))) (l18 : K.lookup f18 = some ⟨oc18, od18, .func (PySem.W.fnOf "_law_same" "_law_same" (defArgs s__law_same) (defBody s__law_same) (defScope s__law_same) .none kV18 dc18 pm18 an18 cd18 ct18), sl18⟩) (c18 : PySem.W.codeIn K cd18 "_law_same" = true) (k18 : PySem.W.keepIn K (.ref f18) = true)
    (a19 : PySem.W.nsIn K mainGlobals "_law_cell" = some (some (.ref f19))) (l19 : K.lookup f19 = some ⟨oc19, od19, .func (PySem.W.fnOf "_law_cell" "_law_cell" (defArgs s__law_cell) (defBody s__law_cell) (defScope s__law_cell) .none kV19 dc19 pm19 an19 cd19 ct19), sl19⟩) (c19 : PySem.W.codeIn K cd19 "_law_cell" = true) (k19 : PySem.W.keepIn K (.ref f19) = true)
    (a20 : PySem.W.nsIn K mainGlobals "_law_pen" = some (some (.ref f20))) (l20 : K.lookup f20 = some ⟨oc20, od20, .func (PySem.W.fnOf "_law_pen" "_law_pen" (defArgs s__law_pen) (defBody s__law_pen) (defScope s__law_pen) .none kV20 dc20 pm20 an20 cd20 ct20), sl20⟩) (c20 : PySem.W.codeIn K cd20 "_law_pen" = true) (k20 : PySem.W.keepIn K (.ref f20) = true)
    (a21 : PySem.W.nsIn K mainGlobals "_law_draw" = some (some (.ref f21))) (l21 : K.lookup f21 = some ⟨oc21, od21, .func (PySem.W.fnOf "_law_draw" "_law_draw" (defArgs s__law_draw) (defBody s__law_draw) (defScope s__law_draw) .none kV21 dc21 pm21 an21 cd21 ct21), sl21⟩) (c21 : PySem.W.codeIn K cd21 "_law_draw" = true) (k21 : PySem.W.keepIn K (.ref f21) = true)
    (a22 : PySem.W.nsIn K mainGlobals "_law_all" = some (some (.ref f22))) (l22 : K.lookup f22 = some ⟨oc22, od22, .func (PySem.W.fnOf "_law_all" "_law_all" (defArgs s__law_all) (defBody s__law_all) (defScope s__law_all) .none kV22 dc22 pm22 an22 cd22 ct22), sl22⟩) (c22 : PySem.W.codeIn K cd22 "_law_all" = true) (k22 : PySem.W.keepIn K (.ref f22) = true)
    (a23 : PySem.W.nsIn K mainGlobals "_law_stack" = some (some (.ref f23))) (l23 : K.lookup f23 = some ⟨oc23, od23, .func (PySem.W.fnOf "_law_stack" "_law_stack" (defArgs s__law_stack) (defBody s__law_stack) (defScope s__law_stack) .none kV23 dc23 pm23 an23 cd23 ct23), sl23⟩) (c23 : PySem.W.codeIn K cd23 "_law_stack" = true) (k23 : PySem.W.keepIn K (.ref f23) = true)
    (a24 : PySem.W.nsIn K mainGlobals "_law_within" = some (some (.ref f24))) (l24 : K.lookup f24 = some ⟨oc24, od24, .func (PySem.W.fnOf "_law_within" "_law_within" (defArgs s__law_within) (defBody s__law_within) (defScope s__law_within) .none kV24 dc24 pm24 an24 cd24 ct24), sl24⟩) (c24 : PySem.W.codeIn K cd24 "_law_within" = true) (k24 : PySem.W.keepIn K (.ref f24) = true)
    (a25 : PySem.W.nsIn K mainGlobals "_law_common" = some (some (.ref f25))) (l25 : K.lookup f25 = some ⟨oc25, od25, .func (PySem.W.fnOf "_law_common" "_law_common" (defArgs s__law_common) (defBody s__law_common) (defScope s__law_common) .none kV25 dc25 pm25 an25 cd25 ct25), sl25⟩) (c25 : PySem.W.codeIn K cd25 "_law_common" = true) (k25 : PySem.W.keepIn K (.ref f25) = true)
    (a26 : PySem.W.nsIn K mainGlobals "_law_may" = some (some (.ref f26))) (l26 : K.lookup f26 = some ⟨oc26, od26, .func (PySem.W.fnOf "_law_may" "_law_may" (defArgs s__law_may) (defBody s__law_may) (defScope s__law_may) .none kV26 dc26 pm26 an26 cd26 ct26), sl26⟩) (c26 : PySem.W.codeIn K cd26 "_law_may" = true) (k26 : PySem.W.keepIn K (.ref f26) = true)
    (a27 : PySem.W.nsIn K mainGlobals "_law_at" = some (some (.ref f27))) (l27 : K.lookup f27 = some ⟨oc27, od27, .func (PySem.W.fnOf "_law_at" "_law_at" (defArgs s__law_at) (defBody s__law_at) (defScope s__law_at) .none kV27 dc27 pm27 an27 cd27 ct27), sl27⟩) (c27 : PySem.W.codeIn K cd27 "_law_at" = true) (k27 : PySem.W.keepIn K (.ref f27) = true)
    (a28 : PySem.W.nsIn K mainGlobals "_law_lots_of" = some (some (.ref f28))) (l28 : K.lookup f28 = some ⟨oc28, od28, .func (PySem.W.fnOf "_law_lots_of" "_law_lots_of" (defArgs s__law_lots_of) (defBody s__law_lots_of) (defScope s__law_lots_of) .none kV28 dc28 pm28 an28 cd28 ct28), sl28⟩) (c28 : PySem.W.codeIn K cd28 "_law_lots_of" = true) (k28 : PySem.W.keepIn K (.ref f28) = true)
    (a29 : PySem.W.nsIn K mainGlobals "_law_numbers" = some (some (.ref f29))) (l29 : K.lookup f29 = some ⟨oc29, od29, .func (PySem.W.fnOf "_law_numbers" "_law_numbers" (defArgs s__law_numbers) (defBody s__law_numbers) (defScope s__law_numbers) .none kV29 dc29 pm29 an29 cd29 ct29), sl29⟩) (c29 : PySem.W.codeIn K cd29 "_law_numbers" = true) (k29 : PySem.W.keepIn K (.ref f29) = true)
    (a30 : PySem.W.nsIn K mainGlobals "_law_barred" = some (some (.ref f30))) (l30 : K.lookup f30 = some ⟨oc30, od30, .func (PySem.W.fnOf "_law_barred" "_law_barred" (defArgs s__law_barred) (defBody s__law_barred) (defScope s__law_barred) .none kV30 dc30 pm30 an30 cd30 ct30), sl30⟩) (c30 : PySem.W.codeIn K cd30 "_law_barred" = true) (k30 : PySem.W.keepIn K (.ref f30) = true)
    (a31 : PySem.W.nsIn K mainGlobals "_law_right" = some (some (.ref f31))) (l31 : K.lookup f31 = some ⟨oc31, od31, .func (PySem.W.fnOf "_law_right" "_law_right" (defArgs s__law_right) (defBody s__law_right) (defScope s__law_right) .none kV31 dc31 pm31 an31 cd31 ct31), sl31⟩) (c31 : PySem.W.codeIn K cd31 "_law_right" = true) (k31 : PySem.W.keepIn K (.ref f31) = true)
    (a32 : PySem.W.nsIn K mainGlobals "law" = some (some (.ref f32))) (l32 : K.lookup f32 = some ⟨oc32, od32, .func (PySem.W.fnOf "law" "law" (defArgs s_law) (defBody s_law) (defScope s_law) .none kV32 dc32 pm32 an32 cd32 ct32), sl32⟩) (c32 : PySem.W.codeIn K cd32 "law" = true) (k32 : PySem.W.keepIn K (.ref f32) = true)
    (z_all : PySem.W.nsIn K mainGlobals "all" = some none)
    (z_any : PySem.W.nsIn K mainGlobals "any" = some none)
    (z_bool : PySem.W.nsIn K mainGlobals "bool" = some none)
    (z_int : PySem.W.nsIn K mainGlobals "int" = some none)
    (z_isinstance : PySem.W.nsIn K mainGlobals "isinstance" = some none)
    (z_len : PySem.W.nsIn K mainGlobals "len" = some none)
    (z_list : PySem.W.nsIn K mainGlobals "list" = some none)
    (z_max : PySem.W.nsIn K mainGlobals "max" = some none)
    (z_min : PySem.W.nsIn K mainGlobals "min" = some none)
    (z_range : PySem.W.nsIn K mainGlobals "range" = some none)
    (z_set : PySem.W.nsIn K mainGlobals "set" = some none)
    (z_sorted : PySem.W.nsIn K mainGlobals "sorted" = some none)
    (z_str : PySem.W.nsIn K mainGlobals "str" = some none)
    (z_tuple : PySem.W.nsIn K mainGlobals "tuple" = some none)
    (z_zip : PySem.W.nsIn K mainGlobals "zip" = some none)
    (g_MOST_FACES : PySem.W.nsIn K mainGlobals "MOST_FACES" = some (some (.int 70 t_MOST_FACES)))
    (g_MOST_POINTS : PySem.W.nsIn K mainGlobals "MOST_POINTS" = some (some (.int 8 t_MOST_POINTS)))
    (g_MOST_SEARCHED : PySem.W.nsIn K mainGlobals "MOST_SEARCHED" = some (some (.int 9 t_MOST_SEARCHED)))
    (g_MOST_TAKEN : PySem.W.nsIn K mainGlobals "MOST_TAKEN" = some (some (.int 4 t_MOST_TAKEN))) :
    ∃ fd : FuncData, (∀ (s : Shared) (v : Value), BindsTo s fd ⟨[v], []⟩ [("_law_script", v)]) ∧ ∀ base : Heap, K.In base → base.Ns mainGlobals mg → FnOk P w K mg base (L2.CX P w) K_law fa fd ["_law_script"] (spLaw K) := by
  have e := hfa.symm.trans (PySem.W.mg_of X G a32)
  cases e
  have F0 := fun_mk (st := s_is_whole) l0 c0 k0
  have b0 := F0.binds (ps := ["thing"]) fun _ _ _ _ _ _ us hl => match us, hl with | [_], _ => rfl
  have F1 := fun_mk (st := s_is_from) l1 c1 k1
  have b1 := F1.binds (ps := ["thing", "low", "high"]) fun _ _ _ _ _ _ us hl => match us, hl with | [_, _, _], _ => rfl
  have F2 := fun_mk (st := s_are_rising) l2 c2 k2
  have b2 := F2.binds (ps := ["many", "thing"]) fun _ _ _ _ _ _ us hl => match us, hl with | [_, _], _ => rfl
  have F3 := fun_mk (st := s_are_faces) l3 c3 k3
  have b3 := F3.binds (ps := ["n", "k", "thing"]) fun _ _ _ _ _ _ us hl => match us, hl with | [_, _, _], _ => rfl
  have F4 := fun_mk (st := s_is_stack) l4 c4 k4
  have b4 := F4.binds (ps := ["thing"]) fun _ _ _ _ _ _ us hl => match us, hl with | [_], _ => rfl
  have F5 := fun_mk (st := s_must_stack) l5 c5 k5
  have b5 := F5.binds (ps := ["stack"]) fun _ _ _ _ _ _ us hl => match us, hl with | [_], _ => rfl
  have F6 := fun_mk (st := s_within) l6 c6 k6
  have b6 := F6.binds (ps := ["part", "face"]) fun _ _ _ _ _ _ us hl => match us, hl with | [_, _], _ => rfl
  have F7 := fun_mk (st := s_faces_at) l7 c7 k7
  have b7 := F7.binds (ps := ["stack", "numbers"]) fun _ _ _ _ _ _ us hl => match us, hl with | [_, _], _ => rfl
  have F8 := fun_mk (st := s_brought_by) l8 c8 k8
  have b8 := F8.binds (ps := ["faces", "face"]) fun _ _ _ _ _ _ us hl => match us, hl with | [_, _], _ => rfl
  have F9 := fun_mk (st := s_face_may) l9 c9 k9
  have b9 := F9.binds (ps := ["faces", "face"]) fun _ _ _ _ _ _ us hl => match us, hl with | [_, _], _ => rfl
  have F10 := fun_mk (st := s_must_few) l10 c10 k10
  have b10 := F10.binds (ps := ["stack"]) fun _ _ _ _ _ _ us hl => match us, hl with | [_], _ => rfl
  have F11 := fun_mk (st := s_must_searched) l11 c11 k11
  have b11 := F11.binds (ps := ["stack"]) fun _ _ _ _ _ _ us hl => match us, hl with | [_], _ => rfl
  have F12 := fun_mk (st := s_steps_on) l12 c12 k12
  have b12 := F12.binds (ps := ["stack", "lot"]) fun _ _ _ _ _ _ us hl => match us, hl with | [_, _], _ => rfl
  have F13 := fun_mk (st := s_put_to) l13 c13 k13
  have b13 := F13.binds (ps := ["lot", "number"]) fun _ _ _ _ _ _ us hl => match us, hl with | [_, _], _ => rfl
  have F14 := fun_mk (st := s_laid_of) l14 c14 k14
  have b14 := F14.binds (ps := ["stack"]) fun _ _ _ _ _ _ us hl => match us, hl with | [_], _ => rfl
  have F15 := fun_mk (st := s_laid_lots) l15 c15 k15
  have b15 := F15.binds (ps := ["stack"]) fun _ _ _ _ _ _ us hl => match us, hl with | [_], _ => rfl
  have F16 := fun_mk (st := s_most_laid) l16 c16 k16
  have b16 := F16.binds (ps := ["stack"]) fun _ _ _ _ _ _ us hl => match us, hl with | [_], _ => rfl
  have F17 := fun_mk (st := s_stuck_lots) l17 c17 k17
  have b17 := F17.binds (ps := ["stack"]) fun _ _ _ _ _ _ us hl => match us, hl with | [_], _ => rfl
  have F18 := fun_mk (st := s__law_same) l18 c18 k18
  have b18 := F18.binds (ps := ["_law_found", "_law_due"]) fun _ _ _ _ _ _ us hl => match us, hl with | [_, _], _ => rfl
  have F19 := fun_mk (st := s__law_cell) l19 c19 k19
  have b19 := F19.binds (ps := ["_law_script", "_law_k"]) fun _ _ _ _ _ _ us hl => match us, hl with | [_, _], _ => rfl
  have F20 := fun_mk (st := s__law_pen) l20 c20 k20
  have b20 := F20.binds (ps := ["_law_cell_here"]) fun _ _ _ _ _ _ us hl => match us, hl with | [_], _ => rfl
  have F21 := fun_mk (st := s__law_draw) l21 c21 k21
  have b21 := F21.binds (ps := ["_law_pen_here", "_law_many"]) fun _ _ _ _ _ _ us hl => match us, hl with | [_, _], _ => rfl
  have F22 := fun_mk (st := s__law_all) l22 c22 k22
  have b22 := F22.binds (ps := ["_law_n", "_law_k"]) fun _ _ _ _ _ _ us hl => match us, hl with | [_, _], _ => rfl
  have F23 := fun_mk (st := s__law_stack) l23 c23 k23
  have b23 := F23.binds (ps := ["_law_pen_here", "_law_most"]) fun _ _ _ _ _ _ us hl => match us, hl with | [_, _], _ => rfl
  have F24 := fun_mk (st := s__law_within) l24 c24 k24
  have b24 := F24.binds (ps := ["_law_part", "_law_face"]) fun _ _ _ _ _ _ us hl => match us, hl with | [_, _], _ => rfl
  have F25 := fun_mk (st := s__law_common) l25 c25 k25
  have b25 := F25.binds (ps := ["_law_one", "_law_other"]) fun _ _ _ _ _ _ us hl => match us, hl with | [_, _], _ => rfl
  have F26 := fun_mk (st := s__law_may) l26 c26 k26
  have b26 := F26.binds (ps := ["_law_k", "_law_faces", "_law_face"]) fun _ _ _ _ _ _ us hl => match us, hl with | [_, _, _], _ => rfl
  have F27 := fun_mk (st := s__law_at) l27 c27 k27
  have b27 := F27.binds (ps := ["_law_stack_here", "_law_numbers_here"]) fun _ _ _ _ _ _ us hl => match us, hl with | [_, _], _ => rfl
  have F28 := fun_mk (st := s__law_lots_of) l28 c28 k28
  have b28 := F28.binds (ps := ["_law_stack_here"]) fun _ _ _ _ _ _ us hl => match us, hl with | [_], _ => rfl
  have F29 := fun_mk (st := s__law_numbers) l29 c29 k29
  have b29 := F29.binds (ps := ["_law_lot"]) fun _ _ _ _ _ _ us hl => match us, hl with | [_], _ => rfl
  have F30 := fun_mk (st := s__law_barred) l30 c30 k30
  have b30 := F30.binds (ps := ["_law_pen_here", "_law_most"]) fun _ _ _ _ _ _ us hl => match us, hl with | [_, _], _ => rfl
  have F31 := fun_mk (st := s__law_right) l31 c31 k31
  have b31 := F31.binds (ps := ["_law_stack_here"]) fun _ _ _ _ _ _ us hl => match us, hl with | [_], _ => rfl
  have F32 := fun_mk (st := s_law) l32 c32 k32
  have b32 := F32.binds (ps := ["_law_script"]) fun _ _ _ _ _ _ us hl => match us, hl with | [_], _ => rfl
  let A : All K mg := {
    d_is_whole := ⟨_, _, F0, PySem.W.mg_of X G a0, b0⟩
    d_is_from := ⟨_, _, F1, PySem.W.mg_of X G a1, b1⟩
    d_are_rising := ⟨_, _, F2, PySem.W.mg_of X G a2, b2⟩
    d_are_faces := ⟨_, _, F3, PySem.W.mg_of X G a3, b3⟩
    d_is_stack := ⟨_, _, F4, PySem.W.mg_of X G a4, b4⟩
    d_must_stack := ⟨_, _, F5, PySem.W.mg_of X G a5, b5⟩
    d_within := ⟨_, _, F6, PySem.W.mg_of X G a6, b6⟩
    d_faces_at := ⟨_, _, F7, PySem.W.mg_of X G a7, b7⟩
    d_brought_by := ⟨_, _, F8, PySem.W.mg_of X G a8, b8⟩
    d_face_may := ⟨_, _, F9, PySem.W.mg_of X G a9, b9⟩
    d_must_few := ⟨_, _, F10, PySem.W.mg_of X G a10, b10⟩
    d_must_searched := ⟨_, _, F11, PySem.W.mg_of X G a11, b11⟩
    d_steps_on := ⟨_, _, F12, PySem.W.mg_of X G a12, b12⟩
    d_put_to := ⟨_, _, F13, PySem.W.mg_of X G a13, b13⟩
    d_laid_of := ⟨_, _, F14, PySem.W.mg_of X G a14, b14⟩
    d_laid_lots := ⟨_, _, F15, PySem.W.mg_of X G a15, b15⟩
    d_most_laid := ⟨_, _, F16, PySem.W.mg_of X G a16, b16⟩
    d_stuck_lots := ⟨_, _, F17, PySem.W.mg_of X G a17, b17⟩
    d__law_same := ⟨_, _, F18, PySem.W.mg_of X G a18, b18⟩
    d__law_cell := ⟨_, _, F19, PySem.W.mg_of X G a19, b19⟩
    d__law_pen := ⟨_, _, F20, PySem.W.mg_of X G a20, b20⟩
    d__law_draw := ⟨_, _, F21, PySem.W.mg_of X G a21, b21⟩
    d__law_all := ⟨_, _, F22, PySem.W.mg_of X G a22, b22⟩
    d__law_stack := ⟨_, _, F23, PySem.W.mg_of X G a23, b23⟩
    d__law_within := ⟨_, _, F24, PySem.W.mg_of X G a24, b24⟩
    d__law_common := ⟨_, _, F25, PySem.W.mg_of X G a25, b25⟩
    d__law_may := ⟨_, _, F26, PySem.W.mg_of X G a26, b26⟩
    d__law_at := ⟨_, _, F27, PySem.W.mg_of X G a27, b27⟩
    d__law_lots_of := ⟨_, _, F28, PySem.W.mg_of X G a28, b28⟩
    d__law_numbers := ⟨_, _, F29, PySem.W.mg_of X G a29, b29⟩
    d__law_barred := ⟨_, _, F30, PySem.W.mg_of X G a30, b30⟩
    d__law_right := ⟨_, _, F31, PySem.W.mg_of X G a31, b31⟩
    d_law := ⟨_, _, F32, PySem.W.mg_of X G a32, b32⟩
    b_all := PySem.W.mg_none_of X G z_all
    b_any := PySem.W.mg_none_of X G z_any
    b_bool := PySem.W.mg_none_of X G z_bool
    b_int := PySem.W.mg_none_of X G z_int
    b_isinstance := PySem.W.mg_none_of X G z_isinstance
    b_len := PySem.W.mg_none_of X G z_len
    b_list := PySem.W.mg_none_of X G z_list
    b_max := PySem.W.mg_none_of X G z_max
    b_min := PySem.W.mg_none_of X G z_min
    b_range := PySem.W.mg_none_of X G z_range
    b_set := PySem.W.mg_none_of X G z_set
    b_sorted := PySem.W.mg_none_of X G z_sorted
    b_str := PySem.W.mg_none_of X G z_str
    b_tuple := PySem.W.mg_none_of X G z_tuple
    b_zip := PySem.W.mg_none_of X G z_zip
    t_MOST_FACES := _
    c_MOST_FACES := PySem.W.mg_of X G g_MOST_FACES
    t_MOST_POINTS := _
    c_MOST_POINTS := PySem.W.mg_of X G g_MOST_POINTS
    t_MOST_SEARCHED := _
    c_MOST_SEARCHED := PySem.W.mg_of X G g_MOST_SEARCHED
    t_MOST_TAKEN := _
    c_MOST_TAKEN := PySem.W.mg_of X G g_MOST_TAKEN
  }
  exact ⟨PySem.W.fnOf "law" "law" (defArgs s_law) (defBody s_law) (defScope s_law) .none kV32 dc32 pm32 an32 cd32 ct32, fun s v => .of_eq rfl, fun base _ _ => law_imp law_true (ok_law A)⟩
theorem walk {l : PySem.W.OpenLaw} {q : Program} {loose : List Str} {XP : (Str → Option Value) → Heap → Prop} {YP : World → Heap → Prop} {d : DefRec} {K : Params → PySem.W.Frag} (hn : l.most = some 63) (hdf : d.params.defaults = [])
    (hY : ∀ (w : World) (h : Heap), YP w h → (K w.params).In h)
    (F : ∀ (w : World) (mg : Str → Option Value) (fa : Addr) (h : Heap), (K w.params).In h → h.Ns mainGlobals mg → mg d.name = some (.ref fa) →
      ∃ fd : FuncData, (∀ (s : Shared) (u : Value), BindsTo s fd ⟨[u], []⟩ [("_law_script", u)]) ∧ ∀ base : Heap, (K w.params).In base → base.Ns mainGlobals mg → FnOk l.prog w (K w.params) mg base (L2.CX l.prog w) K_law fa fd ["_law_script"] (spLaw (K w.params))) :
    PySem.W.WalkO q loose XP YP l.row.toRowW d [] (fun f vs => PySem.call f vs) :=
  L2.walk_of (n := 63) (k := K_law) (x := "_law_script") (CX := fun w => L2.CX l.prog w) (sp := fun w => spLaw (K w.params)) hn (by decide) hdf ⟨rfl, by decide, by decide⟩ hY F (fun _ _ a ns hl _ hS => ⟨a, ns, rfl, hS, hl, fun _ => rfl⟩) fun _ _ _ _ _ z => by
    obtain ⟨_, _, _, _, _, _, _, _, _, _, _, _, z⟩ := z
    exact z
end K21

open PySem PySem.W PyProof.Rows in
set_option maxRecDepth 100000 in
set_option maxHeartbeats 0 in
theorem PySem.Challenge.cw_layfaces_k21_laid_lots_and_stuck_ones_holds : PySem.Challenge.rw_layfaces_k21_laid_lots_and_stuck_ones.Holds := by
  w_on; o_law; k_head; (case hw => w_witness2)
  k_fill
  refine K21.walk (l := PySem.Challenge.rw_layfaces_k21_laid_lots_and_stuck_ones) rfl rfl (fun w h Y => PySem.W.kIn_of Y) ?F
  case F =>
    intro w mg fa h KX G hmg
    refine' K21.all_mk KX G hmg ?a0 ?l0 ?c0 ?k0 ?a1 ?l1 ?c1 ?k1 ?a2 ?l2 ?c2 ?k2 ?a3 ?l3 ?c3 ?k3 ?a4 ?l4 ?c4 ?k4 ?a5 ?l5 ?c5 ?k5 ?a6 ?l6 ?c6 ?k6 ?a7 ?l7 ?c7 ?k7 ?a8 ?l8 ?c8 ?k8 ?a9 ?l9 ?c9 ?k9 ?a10 ?l10 ?c10 ?k10 ?a11 ?l11 ?c11 ?k11 ?a12 ?l12 ?c12 ?k12 ?a13 ?l13 ?c13 ?k13 ?a14 ?l14 ?c14 ?k14 ?a15 ?l15 ?c15 ?k15 ?a16 ?l16 ?c16 ?k16 ?a17 ?l17 ?c17 ?k17 ?a18 ?l18 ?c18 ?k18 ?a19 ?l19 ?c19 ?k19 ?a20 ?l20 ?c20 ?k20 ?a21 ?l21 ?c21 ?k21 ?a22 ?l22 ?c22 ?k22 ?a23 ?l23 ?c23 ?k23 ?a24 ?l24 ?c24 ?k24 ?a25 ?l25 ?c25 ?k25 ?a26 ?l26 ?c26 ?k26 ?a27 ?l27 ?c27 ?k27 ?a28 ?l28 ?c28 ?k28 ?a29 ?l29 ?c29 ?k29 ?a30 ?l30 ?c30 ?k30 ?a31 ?l31 ?c31 ?k31 ?a32 ?l32 ?c32 ?k32 ?z_all ?z_any ?z_bool ?z_int ?z_isinstance ?z_len ?z_list ?z_max ?z_min ?z_range ?z_set ?z_sorted ?z_str ?z_tuple ?z_zip ?g_MOST_FACES ?g_MOST_POINTS ?g_MOST_SEARCHED ?g_MOST_TAKEN
    (case a0 => k_is)
    (case l0 => k_is)
    (case c0 => k_is)
    (case k0 => k_is)
    (case a1 => k_is)
    (case l1 => k_is)
    (case c1 => k_is)
    (case k1 => k_is)
    (case a2 => k_is)
    (case l2 => k_is)
    (case c2 => k_is)
    (case k2 => k_is)
    (case a3 => k_is)
    (case l3 => k_is)
    (case c3 => k_is)
    (case k3 => k_is)
    (case a4 => k_is)
    (case l4 => k_is)
    (case c4 => k_is)
    (case k4 => k_is)
    (case a5 => k_is)
    (case l5 => k_is)
    (case c5 => k_is)
    (case k5 => k_is)
    (case a6 => k_is)
    (case l6 => k_is)
    (case c6 => k_is)
    (case k6 => k_is)
    (case a7 => k_is)
    (case l7 => k_is)
    (case c7 => k_is)
    (case k7 => k_is)
    (case a8 => k_is)
    (case l8 => k_is)
    (case c8 => k_is)
    (case k8 => k_is)
    (case a9 => k_is)
    (case l9 => k_is)
    (case c9 => k_is)
    (case k9 => k_is)
    (case a10 => k_is)
    (case l10 => k_is)
    (case c10 => k_is)
    (case k10 => k_is)
    (case a11 => k_is)
    (case l11 => k_is)
    (case c11 => k_is)
    (case k11 => k_is)
    (case a12 => k_is)
    (case l12 => k_is)
    (case c12 => k_is)
    (case k12 => k_is)
    (case a13 => k_is)
    (case l13 => k_is)
    (case c13 => k_is)
    (case k13 => k_is)
    (case a14 => k_is)
    (case l14 => k_is)
    (case c14 => k_is)
    (case k14 => k_is)
    (case a15 => k_is)
    (case l15 => k_is)
    (case c15 => k_is)
    (case k15 => k_is)
    (case a16 => k_is)
    (case l16 => k_is)
    (case c16 => k_is)
    (case k16 => k_is)
    (case a17 => k_is)
    (case l17 => k_is)
    (case c17 => k_is)
    (case k17 => k_is)
    (case a18 => k_is)
    (case l18 => k_is)
    (case c18 => k_is)
    (case k18 => k_is)
    (case a19 => k_is)
    (case l19 => k_is)
    (case c19 => k_is)
    (case k19 => k_is)
    (case a20 => k_is)
    (case l20 => k_is)
    (case c20 => k_is)
    (case k20 => k_is)
    (case a21 => k_is)
    (case l21 => k_is)
    (case c21 => k_is)
    (case k21 => k_is)
    (case a22 => k_is)
    (case l22 => k_is)
    (case c22 => k_is)
    (case k22 => k_is)
    (case a23 => k_is)
    (case l23 => k_is)
    (case c23 => k_is)
    (case k23 => k_is)
    (case a24 => k_is)
    (case l24 => k_is)
    (case c24 => k_is)
    (case k24 => k_is)
    (case a25 => k_is)
    (case l25 => k_is)
    (case c25 => k_is)
    (case k25 => k_is)
    (case a26 => k_is)
    (case l26 => k_is)
    (case c26 => k_is)
    (case k26 => k_is)
    (case a27 => k_is)
    (case l27 => k_is)
    (case c27 => k_is)
    (case k27 => k_is)
    (case a28 => k_is)
    (case l28 => k_is)
    (case c28 => k_is)
    (case k28 => k_is)
    (case a29 => k_is)
    (case l29 => k_is)
    (case c29 => k_is)
    (case k29 => k_is)
    (case a30 => k_is)
    (case l30 => k_is)
    (case c30 => k_is)
    (case k30 => k_is)
    (case a31 => k_is)
    (case l31 => k_is)
    (case c31 => k_is)
    (case k31 => k_is)
    (case a32 => k_is)
    (case l32 => k_is)
    (case c32 => k_is)
    (case k32 => k_is)
    (case z_all => k_is)
    (case z_any => k_is)
    (case z_bool => k_is)
    (case z_int => k_is)
    (case z_isinstance => k_is)
    (case z_len => k_is)
    (case z_list => k_is)
    (case z_max => k_is)
    (case z_min => k_is)
    (case z_range => k_is)
    (case z_set => k_is)
    (case z_sorted => k_is)
    (case z_str => k_is)
    (case z_tuple => k_is)
    (case z_zip => k_is)
    (case g_MOST_FACES => k_is)
    (case g_MOST_POINTS => k_is)
    (case g_MOST_SEARCHED => k_is)
    (case g_MOST_TAKEN => k_is)
