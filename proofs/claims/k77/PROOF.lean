import PyProof.Rows.All
import Wide.All
import OpenK.AllK
import Wide.FinOn
import HandS.ForMost
import HandS.More
import HandS.Deep
import HandS.Flow
import HandS.Walk
import HandS.TupAny
import HandS.Zip
import HandS.Conv
import HandS.Defaults
import HandS.Wide
import KE.DatumOrd
import KE.DatumMore
import KE.SortData
import KE.DataAny
import KE.DataCmp
import KE.DataMinMax
import HandS.Star
import HandS.TupMul
import HandS.IsInst
import KE.GoesEnum
import KE.GoesNew
import HandS.Style
import HandS.WordsExc
import KE.SortKeyHeap
import KE.KSortTup
import KE.KDictZip
import KE.DataFind
import PyProof.SeqIndex
import PyProof.ListNew
import HandS.DictComp
import HandS.DictSub
import HandS.Small
import KE.KStateDown
import Lean
import HandS.Head0
import HandS.Head1
import HandS.Head2
import HandS.HeadEnd
import HandS.HeadHook1
import HandS.HeadHook2
import PySem.Challenge.RW_crosslimits_k77_across_covers_open_group
set_option Elab.async false
set_option linter.all false
set_option maxRecDepth 100000
set_option maxHeartbeats 0
set_option autoImplicit false
/-! DL: a layer of plain data over the hand layer. -/
namespace DL
open PySem PySem.Spec PyProof.Rows L2

/-! ### what changes, what a value holds -/
/-- an object that may be changed -/
def IsMut : HO → Prop
  | .lst _ => True
  | .dK _ => True
  | .dT _ => True
  | _ => False
def keyD : Key → PyData
  | .inl i => .int i
  | .inr x => .str x

/-- a tuple that is just that -/
def IsT (H : Hp) (a : Addr) (xs : List V) : Prop := xs.length ≤ sizeLine ∧ ∃ o : Obj, o.dict = none ∧ H a = some (.frz o (.tup xs))
/-- a list -/
def IsL (H : Hp) (a : Addr) (xs : List V) : Prop := xs.length ≤ sizeLine ∧ H a = some (.lst xs)
theorem IsL.sq {K : PySem.W.Frag} {H : Hp} {a : Addr} {xs : List V} (h : IsL H a xs) : SqL K H a xs := SqL.of h.2
theorem IsT.sq {K : PySem.W.Frag} {H : Hp} {a : Addr} {xs : List V} (h : IsT H a xs) : SqT K H a xs := let ⟨_, o, _, e⟩ := h; .inl (.inr ⟨o, e⟩)
theorem IsT.mv {H H' : Hp} {a : Addr} {xs : List V} (h : IsT H a xs) (k : ∀ o, ¬ IsMut o → H a = some o → H' a = some o) : IsT H' a xs := let ⟨z, o, d, e⟩ := h; ⟨z, o, d, k _ id e⟩
mutual
/-- the value v holds the datum d; no list or dict of it stands at a place of B -/
inductive Db (B : Addr → Prop) (H : Hp) : V → PyData → Prop
  | non : Db B H .non .none
  | bl (b : Bool) : Db B H (.bl b) (.bool b)
  | int (i : Int) : Db B H (.int i) (.int i)
  | str (x : Str) : Db B H (.str x) (.str x)
  | lst {a : Addr} {xs : List V} {ds : List PyData} : ¬ B a → IsL H a xs → DbAll B H xs ds → Db B H (.ref a) (.list ds)
  | tup {a : Addr} {xs : List V} {ds : List PyData} : IsT H a xs → DbAll B H xs ds → Db B H (.ref a) (.tuple ds)
  | dK {a : Addr} {kvs : List (Key × V)} {ds : List PyData} : ¬ B a → H a = some (.dK kvs) → DbAll B H (kvs.map (·.2)) ds → Db B H (.ref a) (.dict ((kvs.map fun p => keyD p.1).zip ds))
  | dT {a : Addr} {kvs : List (List Key × V)} {ds : List PyData} : ¬ B a → H a = some (.dT kvs) → DbAll B H (kvs.map (·.2)) ds → Db B H (.ref a) (.dict ((kvs.map fun p => .tuple (p.1.map keyD)).zip ds))
inductive DbAll (B : Addr → Prop) (H : Hp) : List V → List PyData → Prop
  | nil : DbAll B H [] []
  | cons {v : V} {vs : List V} {d : PyData} {ds : List PyData} : Db B H v d → DbAll B H vs ds → DbAll B H (v :: vs) (d :: ds)
end

section
variable {B B' : Addr → Prop} {H H' : Hp}
mutual
/-- what is not banned, or can't be changed, stays -/
theorem Db.mv (k : ∀ b o, (¬ B b ∨ ¬ IsMut o) → H b = some o → H' b = some o) : ∀ (v : V) (d : PyData), Db B H v d → Db B H' v d
  | _, _, .non => .non
  | _, _, .bl b => .bl b
  | _, _, .int i => .int i
  | _, _, .str x => .str x
  | _, _, .lst nb r h => .lst nb ⟨r.1, k _ _ (.inl nb) r.2⟩ (Db.mvAll k _ _ h)
  | _, _, .tup r h => .tup (r.mv fun o m e => k _ o (.inr m) e) (Db.mvAll k _ _ h)
  | _, _, .dK nb r h => .dK nb (k _ _ (.inl nb) r) (Db.mvAll k _ _ h)
  | _, _, .dT nb r h => .dT nb (k _ _ (.inl nb) r) (Db.mvAll k _ _ h)
theorem Db.mvAll (k : ∀ b o, (¬ B b ∨ ¬ IsMut o) → H b = some o → H' b = some o) : ∀ (vs : List V) (ds : List PyData), DbAll B H vs ds → DbAll B H' vs ds
  | _, _, .nil => .nil
  | _, _, .cons h t => .cons (Db.mv k _ _ h) (Db.mvAll k _ _ t)
end
mutual
/-- fewer places banned -/
theorem Db.ban (k : ∀ b, B' b → B b) : ∀ (v : V) (d : PyData), Db B H v d → Db B' H v d
  | _, _, .non => .non
  | _, _, .bl b => .bl b
  | _, _, .int i => .int i
  | _, _, .str x => .str x
  | _, _, .lst nb r h => .lst (fun z => nb (k _ z)) r (Db.banAll k _ _ h)
  | _, _, .tup r h => .tup r (Db.banAll k _ _ h)
  | _, _, .dK nb r h => .dK (fun z => nb (k _ z)) r (Db.banAll k _ _ h)
  | _, _, .dT nb r h => .dT (fun z => nb (k _ z)) r (Db.banAll k _ _ h)
theorem Db.banAll (k : ∀ b, B' b → B b) : ∀ (vs : List V) (ds : List PyData), DbAll B H vs ds → DbAll B' H vs ds
  | _, _, .nil => .nil
  | _, _, .cons h t => .cons (Db.ban k _ _ h) (Db.banAll k _ _ t)
end
mutual
/-- more places banned where nothing tracked stood -/
theorem Db.banNew (k : ∀ b, B' b → B b ∨ H b = none) : ∀ (v : V) (d : PyData), Db B H v d → Db B' H v d
  | _, _, .non => .non
  | _, _, .bl b => .bl b
  | _, _, .int i => .int i
  | _, _, .str x => .str x
  | _, _, .lst nb r h => .lst (fun z => (k _ z).elim nb fun q => by rw [r.2] at q; cases q) r (Db.banNewAll k _ _ h)
  | _, _, .tup r h => .tup r (Db.banNewAll k _ _ h)
  | _, _, .dK nb r h => .dK (fun z => (k _ z).elim nb fun q => by rw [r] at q; cases q) r (Db.banNewAll k _ _ h)
  | _, _, .dT nb r h => .dT (fun z => (k _ z).elim nb fun q => by rw [r] at q; cases q) r (Db.banNewAll k _ _ h)
theorem Db.banNewAll (k : ∀ b, B' b → B b ∨ H b = none) : ∀ (vs : List V) (ds : List PyData), DbAll B H vs ds → DbAll B' H vs ds
  | _, _, .nil => .nil
  | _, _, .cons h t => .cons (Db.banNew k _ _ h) (Db.banNewAll k _ _ t)
end
mutual
/-- data without a list or a dict at any depth -/
def flatD : PyData → Bool
  | .list _ => false
  | .dict _ => false
  | .tuple xs => flatAll xs
  | _ => true
def flatAll : List PyData → Bool
  | [] => true
  | x :: xs => flatD x && flatAll xs
end
mutual
theorem Db.flat : ∀ (v : V) (d : PyData), Db B H v d → flatD d = true → Db B' H v d
  | _, _, .non, _ => .non
  | _, _, .bl b, _ => .bl b
  | _, _, .int i, _ => .int i
  | _, _, .str x, _ => .str x
  | _, _, .lst _ _ _, e => by simp [flatD] at e
  | _, _, .tup r h, e => .tup r (Db.flatAll _ _ h (by simpa [flatD] using e))
  | _, _, .dK _ _ _, e => by simp [flatD] at e
  | _, _, .dT _ _ _, e => by simp [flatD] at e
theorem Db.flatAll : ∀ (vs : List V) (ds : List PyData), DbAll B H vs ds → DL.flatAll ds = true → DbAll B' H vs ds
  | _, _, .nil, _ => .nil
  | _, _, .cons h t, e => by
    simp only [DL.flatAll, Bool.and_eq_true] at e
    exact .cons (Db.flat _ _ h e.1) (Db.flatAll _ _ t e.2)
end
theorem Db.same {v : V} {d : PyData} (h : Db B H v d) (s : Same H H') : Db B H' v d := h.mv (fun b o _ e => s b o e)
theorem DbAll.same {vs : List V} {ds : List PyData} (h : DbAll B H vs ds) (s : Same H H') : DbAll B H' vs ds := Db.mvAll (fun b o _ e => s b o e) _ _ h
theorem DbAll.length : ∀ {vs : List V} {ds : List PyData}, DbAll B H vs ds → vs.length = ds.length
  | _, _, .nil => rfl
  | _, _, .cons _ t => congrArg (· + 1) (DbAll.length t)
theorem DbAll.get : ∀ {vs : List V} {ds : List PyData} {i : Nat} {d : PyData}, DbAll B H vs ds → ds[i]? = some d → ∃ v, vs[i]? = some v ∧ Db B H v d
  | _, _, _, _, .nil, e => by simp at e
  | _, _, 0, _, .cons h _, e => by simp at e; subst e; exact ⟨_, rfl, h⟩
  | _, _, i + 1, d, .cons _ t, e => by
    obtain ⟨v, h1, h2⟩ := DbAll.get (i := i) (d := d) t (by simpa using e)
    exact ⟨v, by simpa using h1, h2⟩
theorem DbAll.getV : ∀ {vs : List V} {ds : List PyData} {i : Nat} {v : V}, DbAll B H vs ds → vs[i]? = some v → ∃ d, ds[i]? = some d ∧ Db B H v d
  | _, _, _, _, .nil, e => by simp at e
  | _, _, 0, _, .cons h _, e => by simp at e; subst e; exact ⟨_, rfl, h⟩
  | _, _, i + 1, d, .cons _ t, e => by
    obtain ⟨v, h1, h2⟩ := DbAll.getV (i := i) (v := d) t (by simpa using e)
    exact ⟨v, by simpa using h1, h2⟩
theorem DbAll.append : ∀ {vs ws : List V} {ds es : List PyData}, DbAll B H vs ds → DbAll B H ws es → DbAll B H (vs ++ ws) (ds ++ es)
  | _, _, _, _, .nil, h => h
  | _, _, _, _, .cons h t, h2 => .cons h (DbAll.append t h2)
theorem DbAll.take : ∀ {vs : List V} {ds : List PyData} (n : Nat), DbAll B H vs ds → DbAll B H (vs.take n) (ds.take n)
  | _, _, 0, _ => .nil
  | _, _, _ + 1, .nil => .nil
  | _, _, n + 1, .cons h t => .cons h (DbAll.take n t)
theorem DbAll.drop : ∀ {vs : List V} {ds : List PyData} (n : Nat), DbAll B H vs ds → DbAll B H (vs.drop n) (ds.drop n)
  | _, _, 0, h => h
  | _, _, _ + 1, .nil => .nil
  | _, _, n + 1, .cons _ t => DbAll.drop n t
theorem DbAll.setD : ∀ {vs : List V} {ds : List PyData} (i : Nat) {v : V} {d : PyData}, DbAll B H vs ds → Db B H v d → DbAll B H (vs.set i v) (ds.set i d)
  | _, _, _, _, _, .nil, _ => .nil
  | _, _, 0, _, _, .cons _ t, h => .cons h t
  | _, _, i + 1, _, _, .cons q t, h => .cons q (DbAll.setD i t h)
theorem DbAll.one {v : V} {d : PyData} (h : Db B H v d) : DbAll B H [v] [d] := .cons h .nil
theorem DbAll.banNew {vs : List V} {ds : List PyData} (h : DbAll B H vs ds) (k : ∀ b, B' b → B b ∨ H b = none) : DbAll B' H vs ds := Db.banNewAll k _ _ h
end

/-! ### the environment -/
inductive Slot where
  | no | val (d : PyData) | own (d : PyData) | urn (m : Nat) | raw (v : V) (S : Hp → Prop)
abbrev DEnv := List Slot
/-- B0: banned for what is read of one's own lists, B: banned, U: may have changed since the entry, H0: the entry -/
structure Ct where
  B0 : Addr → Prop
  B : Addr → Prop
  U : Addr → Prop
  H0 : Hp
  ua : Option Addr
/-- the source of draws: three ints -/
def UrnAt (H : Hp) (a : Addr) (m : Nat) : Prop := ∃ x y z : Int, H a = some (.lst [.int x, .int y, .int z]) ∧ 0 ≤ z ∧ z ≤ m ∧ -(2 ^ 62) < y ∧ y < 2 ^ 62
theorem UrnAt.same {H H' : Hp} {a : Addr} {m : Nat} (h : UrnAt H a m) (s : Same H H') : UrnAt H' a m := let ⟨x, y, z, e, q⟩ := h; ⟨x, y, z, s _ _ e, q⟩
/-- the object at a holds the datum d (a list, a dict) -/
inductive OwnAt (B : Addr → Prop) (H : Hp) (a : Addr) : PyData → Prop
  | lst {xs : List V} {ds : List PyData} : IsL H a xs → DbAll B H xs ds → OwnAt B H a (.list ds)
  | dK {kvs : List (Key × V)} {ds : List PyData} : H a = some (.dK kvs) → DbAll B H (kvs.map (·.2)) ds → OwnAt B H a (.dict ((kvs.map fun p => keyD p.1).zip ds))
  | dT {kvs : List (List Key × V)} {ds : List PyData} : H a = some (.dT kvs) → DbAll B H (kvs.map (·.2)) ds → OwnAt B H a (.dict ((kvs.map fun p => .tuple (p.1.map keyD)).zip ds))
/-- S holds of the heap, and of each later one -/
def Stb (B : Addr → Prop) (H : Hp) (S : Hp → Prop) : Prop := ∀ H' : Hp, (∀ b o, (¬ B b ∨ ¬ IsMut o) → H b = some o → H' b = some o) → S H'
theorem Stb.mv {B : Addr → Prop} {H H' : Hp} {S : Hp → Prop} (h : Stb B H S) (k : ∀ b o, (¬ B b ∨ ¬ IsMut o) → H b = some o → H' b = some o) : Stb B H' S := fun H2 k2 => h H2 fun b o q e => k2 b o q (k b o q e)
theorem Stb.same {B : Addr → Prop} {H H' : Hp} {S : Hp → Prop} (h : Stb B H S) (s : Same H H') : Stb B H' S := h.mv fun b o _ e => s b o e
theorem Stb.grow {B B' : Addr → Prop} {H : Hp} {S : Hp → Prop} (h : Stb B H S) (k : ∀ b, B' b → B b ∨ H b = none) : Stb B' H S := fun H2 k2 => h H2 fun b o q e => k2 b o (q.imp (fun n z => (k b z).elim n fun w => by rw [w] at e; cases e) id) e
theorem Stb.here {B : Addr → Prop} {H : Hp} {S : Hp → Prop} (h : Stb B H S) : S H := h H fun _ _ _ e => e
structure REnv (c : Ct) (σ : L2.St) (H : Hp) (Γ : DEnv) : Prop where
  len : σ.length = Γ.length
  val : ∀ (i : Nat) (d : PyData), Γ[i]? = some (Slot.val d) → ∃ v : V, σ[i]? = some (some v) ∧ Db c.B H v d
  own : ∀ (i : Nat) (d : PyData), Γ[i]? = some (Slot.own d) → ∃ a : Addr, σ[i]? = some (some (V.ref a)) ∧ c.B a ∧ ¬ c.B0 a ∧ (c.U a ∨ c.H0 a = none) ∧ OwnAt c.B H a d
  sep : ∀ (i j : Nat) (d e : PyData) (a : Addr), i ≠ j → Γ[i]? = some (Slot.own d) → Γ[j]? = some (Slot.own e) → σ[i]? = some (some (V.ref a)) → σ[j]? = some (some (V.ref a)) → False
  muta : ∀ b, c.B b → ∃ o, H b = some o ∧ IsMut o
  sub : ∀ b, c.B0 b → c.B b
  keep : ∀ b o, ¬ c.U b → c.H0 b = some o → H b = some o
  urn : ∀ (i m : Nat), Γ[i]? = some (Slot.urn m) → ∃ a : Addr, c.ua = some a ∧ σ[i]? = some (some (V.ref a)) ∧ c.B a ∧ ¬ c.B0 a ∧ (c.U a ∨ c.H0 a = none) ∧ UrnAt H a m
  raw : ∀ (i : Nat) (v : V) (S : Hp → Prop), Γ[i]? = some (Slot.raw v S) → σ[i]? = some (some v) ∧ Stb c.B H S
  usep : ∀ (i j m : Nat) (d : PyData) (a : Addr), Γ[i]? = some (Slot.own d) → Γ[j]? = some (Slot.urn m) → σ[i]? = some (some (V.ref a)) → c.ua = some a → False
/-- what is banned of a value: frozen reads ban less -/
def bn (bz : Bool) (c : Ct) : Addr → Prop := if bz = true then c.B0 else c.B
theorem bn_le {bz : Bool} {c : Ct} {σ : L2.St} {H : Hp} {Γ : DEnv} (R : REnv c σ H Γ) : ∀ b, bn bz c b → c.B b := fun b h => by
  cases bz
  · exact h
  · exact R.sub b h
section
variable {c : Ct} {σ : L2.St} {H H' : Hp} {Γ : DEnv} {bz : Bool}
theorem OwnAt.same {B : Addr → Prop} {a : Addr} {d : PyData} (h : OwnAt B H a d) (s : Same H H') : OwnAt B H' a d := by
  cases h with
  | lst e h => exact .lst ⟨e.1, s _ _ e.2⟩ (h.same s)
  | dK e h => exact .dK (s _ _ e) (h.same s)
  | dT e h => exact .dT (s _ _ e) (h.same s)
/-- an own object as a value, the ban of its own place lifted -/
theorem OwnAt.db {B B' : Addr → Prop} {a : Addr} {d : PyData} (h : OwnAt B H a d) (hb : ∀ b, B' b → B b) (na : ¬ B' a) : Db B' H (.ref a) d := by
  cases h with
  | lst e h => exact .lst na e (Db.banAll hb _ _ h)
  | dK e h => exact .dK na e (Db.banAll hb _ _ h)
  | dT e h => exact .dT na e (Db.banAll hb _ _ h)
theorem REnv.same (R : REnv c σ H Γ) (s : Same H H') : REnv c σ H' Γ where
  len := R.len
  val := fun i d e => let ⟨v, h1, h2⟩ := R.val i d e; ⟨v, h1, h2.same s⟩
  own := fun i d e => let ⟨a, h1, h2, h3, h4, h5⟩ := R.own i d e; ⟨a, h1, h2, h3, h4, h5.same s⟩
  sep := R.sep
  muta := fun b hb => let ⟨o, h1, h2⟩ := R.muta b hb; ⟨o, s _ _ h1, h2⟩
  sub := R.sub
  keep := fun b o hu e => s _ _ (R.keep b o hu e)
  urn := fun i m e => let ⟨a, h0, h1, h2, h3, h4, h5⟩ := R.urn i m e; ⟨a, h0, h1, h2, h3, h4, h5.same s⟩
  raw := fun i v S e => let ⟨h1, h2⟩ := R.raw i v S e; ⟨h1, h2.same s⟩
  usep := R.usep
end

/-! ### consequence -/
section
variable {X : Cx}
theorem PE_mono {e : Expr} {t t' : TE} (h : PE X e t) (m : ∀ σ H Q, t' σ H Q → t σ H Q) : PE X e t' := ⟨fun pins s σ H Q I hq => h.run pins s σ H Q I (m _ _ _ hq)⟩
theorem PT_mono {e : Expr} {t t' : TT} (h : PT X e t) (m : ∀ σ H Q, t' σ H Q → t σ H Q) : PT X e t' := ⟨fun pins s σ H Q I hq => h.run pins s σ H Q I (m _ _ _ hq)⟩
theorem PW_mono {e : Expr} {t t' : TT} (h : PW X e t) (m : ∀ σ H Q, t' σ H Q → t σ H Q) : PW X e t' := ⟨fun w pins s σ H Q I hq => h.run w pins s σ H Q I (m _ _ _ hq)⟩
theorem PA_mono {e : List Expr} {t t' : TA} (h : PA X e t) (m : ∀ σ H Q, t' σ H Q → t σ H Q) : PA X e t' := ⟨fun p pins s σ H Q I hq => h.run p pins s σ H Q I (m _ _ _ hq)⟩
theorem PS_mono {e : Stmt} {t t' : TS} (h : PS X e t) (m : ∀ D σ H, t' D σ H → t D σ H) : PS X e t' := ⟨fun pins s σ H D I hq => h.run pins s σ H D I (m _ _ _ hq)⟩
theorem PSs_mono {e : List Stmt} {t t' : TS} (h : PSs X e t) (m : ∀ D σ H, t' D σ H → t D σ H) : PSs X e t' := ⟨fun pins s σ H D I hq => h.run pins s σ H D I (m _ _ _ hq)⟩
theorem PI_mono {tg e : Expr} {t t' : TI} (h : PI X tg e t) (m : ∀ σ H Q, t' σ H Q → t σ H Q) : PI X tg e t' := ⟨fun pins s σ H Q I hq => h.run pins s σ H Q I (m _ _ _ hq)⟩
/-- one of several -/
theorem PE_ex {e : Expr} {ι : Sort _} {φ : ι → Prop} {t : ι → TE} (h : ∀ p, φ p → PE X e (t p)) : PE X e (fun σ H Q => ∃ p, φ p ∧ t p σ H Q) := ⟨fun pins s σ H Q I ⟨p, hp, hq⟩ => (h p hp).run pins s σ H Q I hq⟩
theorem PT_ex {e : Expr} {ι : Sort _} {φ : ι → Prop} {t : ι → TT} (h : ∀ p, φ p → PT X e (t p)) : PT X e (fun σ H Q => ∃ p, φ p ∧ t p σ H Q) := ⟨fun pins s σ H Q I ⟨p, hp, hq⟩ => (h p hp).run pins s σ H Q I hq⟩
theorem PTs_ex {e : List Expr} {ι : Sort _} {φ : ι → Prop} {t : ι → TT} (h : ∀ p, φ p → PTs X e (t p)) : PTs X e (fun σ H Q => ∃ p, φ p ∧ t p σ H Q) := ⟨fun pins s σ H Q I ⟨p, hp, hq⟩ => (h p hp).run pins s σ H Q I hq⟩
theorem PSs_ex {e : List Stmt} {ι : Sort _} {φ : ι → Prop} {t : ι → TS} (h : ∀ p, φ p → PSs X e (t p)) : PSs X e (fun D σ H => ∃ p, φ p ∧ t p D σ H) := ⟨fun pins s σ H D I ⟨p, hp, hq⟩ => (h p hp).run pins s σ H D I hq⟩
end

/-! ### the judgements for expressions that change nothing -/
def tEv (bz : Bool) (Γ : DEnv) (d : PyData) : TE := fun σ H Q => ∃ c : Ct, REnv c σ H Γ ∧ ∀ v H', Same H H' → Db (bn bz c) H' v d → Q v H'
/-- e holds d -/
abbrev Ev (bz : Bool) (X : Cx) (Γ : DEnv) (e : Expr) (d : PyData) : Prop := PE X e (tEv bz Γ d)
def tTv (Γ : DEnv) (b : Bool) : TT := fun σ H Q => ∃ c : Ct, REnv c σ H Γ ∧ ∀ H', Same H H' → Q b H'
abbrev Tv (X : Cx) (Γ : DEnv) (e : Expr) (b : Bool) : Prop := PT X e (tTv Γ b)
def tAv (bz : Bool) (Γ : DEnv) (ds : List PyData) : TA := fun σ H Q => ∃ c : Ct, REnv c σ H Γ ∧ ∀ vs H', Same H H' → DbAll (bn bz c) H' vs ds → Q vs H'
abbrev Av (bz : Bool) (X : Cx) (Γ : DEnv) (es : List Expr) (ds : List PyData) : Prop := PA X es (tAv bz Γ ds)

section
variable {X : Cx} {bz : Bool} {Γ : DEnv} {a b e : Expr} {es : List Expr} {pos : Pos} {d d1 d2 : PyData} {ds : List PyData}

/-! ### names, constants -/
theorem ev_nm (i : Nat) {x : Str} (h : Γ[i]? = some (.val d) := by rfl) (hN : X.N[i]? = some x := by rfl) (hv : Vis X.env.scope x := by first | exact Or.inl rfl | exact Or.inr (Or.inl rfl) | exact Or.inr (Or.inr rfl)) (hd : (x == ("__debug__" : Str)) = false := by decide)
    (hcd : (x == ("__classdict__" : Str)) = false := by decide) : Ev bz X Γ (.Name x pos) d :=
  PE_mono (pe_var hN hv hd hcd) fun σ H Q ⟨c, R, k⟩ => by
    obtain ⟨v, h1, h2⟩ := R.val i d h
    exact ⟨v, h1, k v H (Same.refl H) (h2.ban (bn_le R))⟩
/-- one's own list, frozen -/
theorem ev_own (i : Nat) {x : Str} (h : Γ[i]? = some (.own d) := by rfl) (hN : X.N[i]? = some x := by rfl) (hv : Vis X.env.scope x := by first | exact Or.inl rfl | exact Or.inr (Or.inl rfl) | exact Or.inr (Or.inr rfl)) (hd : (x == ("__debug__" : Str)) = false := by decide)
    (hcd : (x == ("__classdict__" : Str)) = false := by decide) : Ev true X Γ (.Name x pos) d :=
  PE_mono (pe_var hN hv hd hcd) fun σ H Q ⟨c, R, k⟩ => by
    obtain ⟨a, h1, h2, h3, h4, h5⟩ := R.own i d h
    exact ⟨_, h1, k _ H (Same.refl H) (h5.db R.sub h3)⟩
theorem ev_int {i : Int} {j} : Ev bz X Γ (.Constant (.int i) j pos) (.int i) := PE_mono pe_int fun σ H Q ⟨c, R, k⟩ => k _ H (Same.refl H) (.int i)
theorem ev_bl {i : Bool} {j} : Ev bz X Γ (.Constant (.bool i) j pos) (.bool i) := PE_mono pe_bl fun σ H Q ⟨c, R, k⟩ => k _ H (Same.refl H) (.bl i)
theorem ev_str {x : Str} {j} : Ev bz X Γ (.Constant (.str x) j pos) (.str x) := PE_mono pe_str fun σ H Q ⟨c, R, k⟩ => k _ H (Same.refl H) (.str x)
theorem ev_non {j} : Ev bz X Γ (.Constant .none j pos) .none := PE_mono pe_non fun σ H Q ⟨c, R, k⟩ => k _ H (Same.refl H) .non
/-- a module's int -/
theorem ev_gint {x : Str} {i : Int} (hm : ∃ t, X.mg x = some (.int i t)) (hg : Gl X x := by rfl) (hd : (x == ("__debug__" : Str)) = false := by decide) : Ev bz X Γ (.Name x pos) (.int i) := by
  obtain ⟨t, hm⟩ := hm
  exact PE_mono (pe_glob (v := .int i) hg hm ⟨_, rfl⟩ hd) fun σ H Q ⟨c, R, k⟩ => k _ H (Same.refl H) (.int i)

/-! ### operators by values -/
theorem ev_op {op : Operator} {r : R2} (ho : OpR X (binaryOp op) r)
    (hr : ∀ (B : Addr → Prop) v u H Q, Db B H v d1 → Db B H u d2 → (∀ b, B b → H b ≠ none) → (∀ v' H', Same H H' → Db B H' v' d → Q v' H') → r v u H Q)
    (ha : Ev bz X Γ a d1) (hb : Ev bz X Γ b d2) : Ev bz X Γ (.BinOp a op b pos) d :=
  PE_mono (pe_op ho ha hb) fun σ H Q ⟨c, R, k⟩ => ⟨c, R, fun v1 H1 s1 h1 => ⟨c, R.same s1, fun v2 H2 s2 h2 =>
    hr (bn bz c) v1 v2 H2 Q (h1.same s2) h2 (fun b hb => by obtain ⟨o, e, _⟩ := ((R.same s1).same s2).muta b (bn_le R b hb); rw [e]; exact nofun) fun v' H' s3 h3 => k v' H' (s1.trans (s2.trans s3)) h3⟩⟩
theorem ev_cmp {op : CmpOp} {r : R2} (ho : OpR X (compareOp op) r)
    (hr : ∀ (B : Addr → Prop) v u H Q, Db B H v d1 → Db B H u d2 → (∀ v' H', Same H H' → Db B H' v' d → Q v' H') → r v u H Q)
    (hm : behindInMarks op b = false) (ha : Ev bz X Γ a d1) (hb : Ev bz X Γ b d2) : Ev bz X Γ (.Compare a [op] [b] pos) d :=
  PE_mono (pe_cmpR ho ha hb hm) fun σ H Q ⟨c, R, k⟩ => ⟨c, R, fun v1 H1 s1 h1 => ⟨c, R.same s1, fun v2 H2 s2 h2 =>
    hr (bn bz c) v1 v2 H2 Q (h1.same s2) h2 fun v' H' s3 h3 => k v' H' (s1.trans (s2.trans s3)) h3⟩⟩
theorem tv_cmp {op : CmpOp} {r : R2} {t : Bool} (ho : OpR X (compareOp op) r)
    (hr : ∀ (B : Addr → Prop) v u H Q, Db B H v d1 → Db B H u d2 → (∀ v' H', Same H H' → Db B H' v' (.bool t) → Q v' H') → r v u H Q)
    (hm : behindInMarks op b = false) (ha : Ev true X Γ a d1) (hb : Ev true X Γ b d2) : Tv X Γ (.Compare a [op] [b] pos) t :=
  PT_mono (pt_cmpR ho ha hb hm) fun σ H Q ⟨c, R, k⟩ => ⟨c, R, fun v1 H1 s1 h1 => ⟨c, R.same s1, fun v2 H2 s2 h2 =>
    hr (bn true c) v1 v2 H2 _ (h1.same s2) h2 fun v' H' s3 h3 => by
      cases h3
      exact ⟨_, rfl, k H' (s1.trans (s2.trans s3))⟩⟩⟩
end
end DL

namespace DL
open PySem PySem.Spec PyProof.Rows L2

/-- what holds wherever a body runs -/
structure XG (calm : Bool) (A : Around) (N : List Str) : Prop where
  calm : calm = true
  un : A.units + 200 < cLine
  hd : A.handled = none
  nd : N.Nodup
section
variable {X : Cx} {pins : List (Addr × Obj)} {σ : L2.St} {H : Hp} {s : Shared} {B : Addr → Prop}
mutual
theorem Db.dp (K : PySem.W.Frag) : ∀ (v : V) (d : PyData), Db B H v d → d.plain = true → Dp K H v d
  | _, _, .non, _ => .non
  | _, _, .bl b, _ => .bl b
  | _, _, .int i, _ => .int i
  | _, _, .str x, _ => .str x
  | _, _, .lst nb r h, e => .lst r.sq (Db.dpAll K _ _ h (by simpa [PyData.plain] using e))
  | _, _, .tup r h, e => .tup r.sq (Db.dpAll K _ _ h (by simpa [PyData.plain] using e))
  | _, _, .dK _ _ _, e => by simp [PyData.plain] at e
  | _, _, .dT _ _ _, e => by simp [PyData.plain] at e
theorem Db.dpAll (K : PySem.W.Frag) : ∀ (vs : List V) (ds : List PyData), DbAll B H vs ds → PyData.plainAll ds = true → DpAll K H vs ds
  | _, _, .nil, _ => .nil
  | _, _, .cons h t, e => by
    simp only [PyData.plainAll, Bool.and_eq_true] at e
    exact .cons (Db.dp K _ _ h e.1) (Db.dpAll K _ _ t e.2)
end
theorem Db.reads (I : Inv X pins σ H s) {v : V} {d : PyData} {u : Value} (h : Db B H v d) (p : d.plain = true) (r : RelV v u) : ∃ as, Reads s.heap u d as := Dp.reads I d v u (h.dp X.K _ _ p) r
theorem DbAll.reads (I : Inv X pins σ H s) {vs : List V} {ds : List PyData} {us : List Value} (h : DbAll B H vs ds) (p : PyData.plainAll ds = true) (r : Vals vs us) : ∃ as, ReadsAll s.heap us ds as := Dp.readsAll I ds vs us (Db.dpAll X.K _ _ h p) r
end

/-! ### what is asked of data: no dict, not deep -/
def small (d : PyData) : Bool := d.plain && decide (d.depth ≤ 40)
def smallAll (ds : List PyData) : Bool := PyData.plainAll ds && decide (PyData.depthAll ds ≤ 40)
theorem small_iff {d : PyData} : small d = true ↔ d.plain = true ∧ d.depth ≤ 40 := by simp [small]
theorem smallAll_iff {d : List PyData} : smallAll d = true ↔ PyData.plainAll d = true ∧ PyData.depthAll d ≤ 40 := by simp [smallAll]

section
variable {X : Cx} {bz : Bool} {Γ : DEnv} {a b e : Expr} {es : List Expr} {pos : Pos} {d d1 d2 : PyData} {ds : List PyData}

/-! ### comparisons -/
theorem PC_mono {op : CmpOp} {t t' : TE} (h : PC X op a b t) (m : ∀ σ H Q, t' σ H Q → t σ H Q) : PC X op a b t' := ⟨fun pins s σ H Q I hq => h.run pins s σ H Q I (m _ _ _ hq)⟩
abbrev Cv (bz : Bool) (X : Cx) (Γ : DEnv) (op : CmpOp) (a b : Expr) (d : PyData) : Prop := PC X op a b (tEv bz Γ d)
theorem cv_op {op : CmpOp} {r : R2} (ho : OpR X (compareOp op) r)
    (hr : ∀ (B : Addr → Prop) v u H Q, Db B H v d1 → Db B H u d2 → (∀ v' H', Same H H' → Db B H' v' d → Q v' H') → r v u H Q)
    (ha : Ev bz X Γ a d1) (hb : Ev bz X Γ b d2) : Cv bz X Γ op a b d := by
  refine ⟨fun pins s σ H Q I ⟨c, R, k⟩ => ?_⟩
  refine bin (R := fun v u H2 => Same H H2 ∧ Db (bn bz c) H2 v d1 ∧ Db (bn bz c) H2 u d2) ha hb I ⟨c, R, fun v1 H1 s1 h1 => ⟨c, R.same s1, fun v2 H2 s2 h2 => ⟨s1.trans s2, h1.same s2, h2⟩⟩⟩ fun v u s2 x y H2 I2 rx ry ⟨q0, q1, q2⟩ => ?_
  exact ho pins s2 σ H2 x y v u Q I2 rx ry (hr (bn bz c) x y H2 Q q1 q2 fun v' H' s3 h3 => k v' H' (q0.trans s3) h3)

/-! ### ints -/
theorem ev_add {i j : Int} (ha : Ev bz X Γ a (.int i)) (hb : Ev bz X Γ b (.int j)) : Ev bz X Γ (.BinOp a .Add b pos) (.int (i + j)) :=
  ev_op op_add (fun B v u H Q h1 h2 _ k => by cases h1; cases h2; exact ⟨_, _, rfl, rfl, k _ H (Same.refl H) (.int _)⟩) ha hb
theorem ev_sub {i j : Int} (ha : Ev bz X Γ a (.int i)) (hb : Ev bz X Γ b (.int j)) : Ev bz X Γ (.BinOp a .Sub b pos) (.int (i - j)) :=
  ev_op op_sub (fun B v u H Q h1 h2 _ k => by cases h1; cases h2; exact ⟨_, _, rfl, rfl, k _ H (Same.refl H) (.int _)⟩) ha hb
theorem ev_mul {i j : Int} (ha : Ev bz X Γ a (.int i)) (hb : Ev bz X Γ b (.int j)) (hm : CMul i j) : Ev bz X Γ (.BinOp a .Mult b pos) (.int (i * j)) :=
  ev_op op_mul (fun B v u H Q h1 h2 _ k => by cases h1; cases h2; exact ⟨_, _, rfl, rfl, hm, k _ H (Same.refl H) (.int _)⟩) ha hb
theorem ev_mod {i j : Int} (ha : Ev bz X Γ a (.int i)) (hb : Ev bz X Γ b (.int j)) (hm : 0 < j) : Ev bz X Γ (.BinOp a .Mod b pos) (.int (i % j)) :=
  ev_op op_mod (fun B v u H Q h1 h2 _ k => by cases h1; cases h2; exact ⟨_, _, rfl, rfl, hm, k _ H (Same.refl H) (.int _)⟩) ha hb
theorem ev_div {i j : Int} (ha : Ev bz X Γ a (.int i)) (hb : Ev bz X Γ b (.int j)) (hm : CDiv i j) : Ev bz X Γ (.BinOp a .FloorDiv b pos) (.int (i / j)) :=
  ev_op op_fdiv (fun B v u H Q h1 h2 _ k => by cases h1; cases h2; exact ⟨_, _, rfl, rfl, hm, k _ H (Same.refl H) (.int _)⟩) ha hb
theorem ev_pow {i j : Int} (ha : Ev bz X Γ a (.int i)) (hb : Ev bz X Γ b (.int j)) (hm : CPow i j) : Ev bz X Γ (.BinOp a .Pow b pos) (.int (i ^ j.toNat)) :=
  ev_op op_pow (fun B v u H Q h1 h2 _ k => by cases h1; cases h2; exact ⟨_, _, rfl, rfl, hm, k _ H (Same.refl H) (.int _)⟩) ha hb
theorem ev_neg {i : Int} (ha : Ev bz X Γ a (.int i)) : Ev bz X Γ (.UnaryOp .USub a pos) (.int (-i)) :=
  PE_mono (pe_un un_neg ha) fun σ H Q ⟨c, R, k⟩ => ⟨c, R, fun v H1 s1 h1 => by cases h1; exact ⟨_, rfl, k _ H1 s1 (.int _)⟩⟩
theorem cv_lt {i j : Int} (ha : Ev bz X Γ a (.int i)) (hb : Ev bz X Γ b (.int j)) : Cv bz X Γ .Lt a b (.bool (decide (i < j))) :=
  cv_op op_lt (fun B v u H Q h1 h2 k => by cases h1; cases h2; exact ⟨_, _, rfl, rfl, k _ H (Same.refl H) (.bl _)⟩) ha hb
theorem cv_le {i j : Int} (ha : Ev bz X Γ a (.int i)) (hb : Ev bz X Γ b (.int j)) : Cv bz X Γ .LtE a b (.bool (decide (i ≤ j))) :=
  cv_op op_le (fun B v u H Q h1 h2 k => by cases h1; cases h2; exact ⟨_, _, rfl, rfl, k _ H (Same.refl H) (.bl _)⟩) ha hb
theorem cv_gt {i j : Int} (ha : Ev bz X Γ a (.int i)) (hb : Ev bz X Γ b (.int j)) : Cv bz X Γ .Gt a b (.bool (decide (j < i))) :=
  cv_op op_gt (fun B v u H Q h1 h2 k => by cases h1; cases h2; exact ⟨_, _, rfl, rfl, k _ H (Same.refl H) (.bl _)⟩) ha hb
theorem cv_ge {i j : Int} (ha : Ev bz X Γ a (.int i)) (hb : Ev bz X Γ b (.int j)) : Cv bz X Γ .GtE a b (.bool (decide (j ≤ i))) :=
  cv_op op_ge (fun B v u H Q h1 h2 k => by cases h1; cases h2; exact ⟨_, _, rfl, rfl, k _ H (Same.refl H) (.bl _)⟩) ha hb

/-! ### == != < of data, is None -/
def rDD (f : PyData → PyData → PyData → Prop) : R2 := fun x y H Q => ∃ (B : Addr → Prop) (d e r : PyData), Db B H x d ∧ Db B H y e ∧ f d e r ∧ ∀ v, Db B H v r → Q v H
theorem op_DD {op : CmpOp} {f : PyData → PyData → PyData → Prop}
    (h : ∀ (s : Shared) (u v : Value) (as bs : List Addr) (d e : PyData) (k : Bool) (Q : Value → Shared → Prop), Reads s.heap u d as → Reads s.heap v e bs → f d e (.bool k) → Q (.bool k) s → wpAny (model X.prog X.w) X.A (compareOp op u v) Q X.xe s)
    (hp : ∀ d e r, f d e r → d.plain = true ∧ e.plain = true ∧ ∃ k, r = .bool k) : OpR X (compareOp op) (rDD f) := by
  intro pins s σ H x y v u Q I rx ry ⟨B, d, e, r, hd, he, hf, q⟩
  obtain ⟨p1, p2, k, rfl⟩ := hp _ _ _ hf
  obtain ⟨as, r1⟩ := hd.reads I p1 rx
  obtain ⟨bs, r2⟩ := he.reads I p2 ry
  exact h s v u as bs d e k _ r1 r2 hf ⟨.bl k, H, I, rfl, q _ (.bl k)⟩
theorem depth_ok {A : Around} (g : A.units + 200 < cLine) {d e : PyData} (h : small d = true) : A.units + min d.depth e.depth < cLine := by
  have := (small_iff.mp h).2
  omega
theorem op_eqP (g : XG X.calm X.A X.N) : OpR X (compareOp .Eq) (rDD fun d e r => small d = true ∧ small e = true ∧ r = .bool (PyData.eqv d e)) :=
  op_DD (fun s u v as bs d e k Q r1 r2 ⟨h1, h2, h3⟩ q => SeqAt.eq_plain r1 r2 (small_iff.mp h1).1 (small_iff.mp h2).1 (depth_ok g.un h1) (by injection h3 with h3; rw [← h3]; exact q))
    fun d e r ⟨h1, h2, h3⟩ => ⟨(small_iff.mp h1).1, (small_iff.mp h2).1, _, h3⟩
theorem op_neP (g : XG X.calm X.A X.N) : OpR X (compareOp .NotEq) (rDD fun d e r => small d = true ∧ small e = true ∧ r = .bool (!PyData.eqv d e)) :=
  op_DD (fun s u v as bs d e k Q r1 r2 ⟨h1, h2, h3⟩ q => SeqAt.ne_plain r1 r2 (small_iff.mp h1).1 (small_iff.mp h2).1 (depth_ok g.un h1) (by injection h3 with h3; rw [← h3]; exact q))
    fun d e r ⟨h1, h2, h3⟩ => ⟨(small_iff.mp h1).1, (small_iff.mp h2).1, _, h3⟩
abbrev ltC (d e : PyData) : Prop := small d = true ∧ small e = true ∧ PySem.W.alike d e = true ∧ d ≠ .none
theorem op_ltP (g : XG X.calm X.A X.N) : OpR X (compareOp .Lt) (rDD fun d e r => ltC d e ∧ r = .bool (PySem.W.dataLt d e)) :=
  op_DD (fun s u v as bs d e k Q r1 r2 ⟨⟨h1, h2, h4, h5⟩, h3⟩ q => PySem.W.lt_data r1 r2 h4 h5 (depth_ok g.un h1) (by injection h3 with h3; rw [← h3]; exact q))
    fun d e r ⟨⟨h1, h2, _⟩, h3⟩ => ⟨(small_iff.mp h1).1, (small_iff.mp h2).1, _, h3⟩
theorem op_gtP (g : XG X.calm X.A X.N) : OpR X (compareOp .Gt) (rDD fun d e r => ltC d e ∧ r = .bool (PySem.W.dataLt e d)) :=
  op_DD (fun s u v as bs d e k Q r1 r2 ⟨⟨h1, h2, h4, h5⟩, h3⟩ q => PySem.W.gt_data r1 r2 h4 h5 (depth_ok g.un h1) (by injection h3 with h3; rw [← h3]; exact q))
    fun d e r ⟨⟨h1, h2, _⟩, h3⟩ => ⟨(small_iff.mp h1).1, (small_iff.mp h2).1, _, h3⟩
theorem op_leP (g : XG X.calm X.A X.N) : OpR X (compareOp .LtE) (rDD fun d e r => ltC d e ∧ r = .bool (!PySem.W.dataLt e d)) :=
  op_DD (fun s u v as bs d e k Q r1 r2 ⟨⟨h1, h2, h4, h5⟩, h3⟩ q => PySem.W.le_data r1 r2 h4 h5 (depth_ok g.un h1) (by injection h3 with h3; rw [← h3]; exact q))
    fun d e r ⟨⟨h1, h2, _⟩, h3⟩ => ⟨(small_iff.mp h1).1, (small_iff.mp h2).1, _, h3⟩
/-- in, not in: a list or a tuple -/
def isSeq (c : PyData) (ds : List PyData) : Prop := c = .list ds ∨ c = .tuple ds
theorem room_in {A : Around} (g : A.units + 200 < cLine) {xs : List PyData} {d : PyData} (h : small d = true) : A.units + 1 + min (PyData.depthAll xs) d.depth < cLine := by
  have := (small_iff.mp h).2
  omega
def inC (d c : PyData) (ds : List PyData) : Prop := isSeq c ds ∧ small d = true ∧ smallAll ds = true
theorem isSeq.plain {c : PyData} {ds : List PyData} (h : isSeq c ds) (s : smallAll ds = true) : c.plain = true := by
  rcases h with rfl | rfl <;> (simp only [PyData.plain]; exact (smallAll_iff.mp s).1)
theorem op_inP (g : XG X.calm X.A X.N) : OpR X (compareOp .In) (rDD fun d c r => ∃ ds, inC d c ds ∧ r = .bool (ds.any fun z => PyData.eqv z d)) :=
  op_DD (fun s u v as bs d c k Q r1 r2 ⟨ds, ⟨h1, h2, h3⟩, h4⟩ q => by
      have q' : Q (.bool (ds.any fun z => PyData.eqv z d)) s := by injection h4 with h4; rw [← h4]; exact q
      rcases h1 with rfl | rfl
      · exact SeqAt.in_list_data r2 r1 (smallAll_iff.mp h3).1 (small_iff.mp h2).1 (room_in g.un h2) q'
      · exact SeqAt.in_tuple_data r2 r1 (smallAll_iff.mp h3).1 (small_iff.mp h2).1 (room_in g.un h2) q')
    fun d e r ⟨ds, ⟨h1, h2, h3⟩, h4⟩ => ⟨(small_iff.mp h2).1, h1.plain h3, _, h4⟩
theorem op_notInP (g : XG X.calm X.A X.N) : OpR X (compareOp .NotIn) (rDD fun d c r => ∃ ds, inC d c ds ∧ r = .bool (!ds.any fun z => PyData.eqv z d)) :=
  op_DD (fun s u v as bs d c k Q r1 r2 ⟨ds, ⟨h1, h2, h3⟩, h4⟩ q => by
      have q' : Q (.bool (!ds.any fun z => PyData.eqv z d)) s := by injection h4 with h4; rw [← h4]; exact q
      rcases h1 with rfl | rfl
      · exact SeqAt.notIn_list_data r2 r1 (smallAll_iff.mp h3).1 (small_iff.mp h2).1 (room_in g.un h2) q'
      · exact SeqAt.notIn_tuple_data r2 r1 (smallAll_iff.mp h3).1 (small_iff.mp h2).1 (room_in g.un h2) q')
    fun d e r ⟨ds, ⟨h1, h2, h3⟩, h4⟩ => ⟨(small_iff.mp h2).1, h1.plain h3, _, h4⟩

theorem cv_eq (g : XG X.calm X.A X.N) (ha : Ev bz X Γ a d1) (hb : Ev bz X Γ b d2) (h1 : small d1 = true) (h2 : small d2 = true) : Cv bz X Γ .Eq a b (.bool (PyData.eqv d1 d2)) :=
  cv_op (op_eqP g) (fun B v u H Q q1 q2 k => ⟨B, _, _, _, q1, q2, ⟨h1, h2, rfl⟩, fun w hw => k w H (Same.refl H) hw⟩) ha hb
theorem cv_ne (g : XG X.calm X.A X.N) (ha : Ev bz X Γ a d1) (hb : Ev bz X Γ b d2) (h1 : small d1 = true) (h2 : small d2 = true) : Cv bz X Γ .NotEq a b (.bool (!PyData.eqv d1 d2)) :=
  cv_op (op_neP g) (fun B v u H Q q1 q2 k => ⟨B, _, _, _, q1, q2, ⟨h1, h2, rfl⟩, fun w hw => k w H (Same.refl H) hw⟩) ha hb
theorem cv_ltD (g : XG X.calm X.A X.N) (ha : Ev bz X Γ a d1) (hb : Ev bz X Γ b d2) (h : ltC d1 d2) : Cv bz X Γ .Lt a b (.bool (PySem.W.dataLt d1 d2)) :=
  cv_op (op_ltP g) (fun B v u H Q q1 q2 k => ⟨B, _, _, _, q1, q2, ⟨h, rfl⟩, fun w hw => k w H (Same.refl H) hw⟩) ha hb
theorem cv_gtD (g : XG X.calm X.A X.N) (ha : Ev bz X Γ a d1) (hb : Ev bz X Γ b d2) (h : ltC d1 d2) : Cv bz X Γ .Gt a b (.bool (PySem.W.dataLt d2 d1)) :=
  cv_op (op_gtP g) (fun B v u H Q q1 q2 k => ⟨B, _, _, _, q1, q2, ⟨h, rfl⟩, fun w hw => k w H (Same.refl H) hw⟩) ha hb
theorem cv_leD (g : XG X.calm X.A X.N) (ha : Ev bz X Γ a d1) (hb : Ev bz X Γ b d2) (h : ltC d1 d2) : Cv bz X Γ .LtE a b (.bool (!PySem.W.dataLt d2 d1)) :=
  cv_op (op_leP g) (fun B v u H Q q1 q2 k => ⟨B, _, _, _, q1, q2, ⟨h, rfl⟩, fun w hw => k w H (Same.refl H) hw⟩) ha hb
theorem cv_in (g : XG X.calm X.A X.N) (ha : Ev bz X Γ a d1) (hb : Ev bz X Γ b d2) (h : inC d1 d2 ds) : Cv bz X Γ .In a b (.bool (ds.any fun z => PyData.eqv z d1)) :=
  cv_op (op_inP g) (fun B v u H Q q1 q2 k => ⟨B, _, _, _, q1, q2, ⟨ds, h, rfl⟩, fun w hw => k w H (Same.refl H) hw⟩) ha hb
theorem cv_notIn (g : XG X.calm X.A X.N) (ha : Ev bz X Γ a d1) (hb : Ev bz X Γ b d2) (h : inC d1 d2 ds) : Cv bz X Γ .NotIn a b (.bool (!ds.any fun z => PyData.eqv z d1)) :=
  cv_op (op_notInP g) (fun B v u H Q q1 q2 k => ⟨B, _, _, _, q1, q2, ⟨ds, h, rfl⟩, fun w hw => k w H (Same.refl H) hw⟩) ha hb
def isNon : PyData → Bool
  | .none => true
  | _ => false
theorem Db.isNon {B : Addr → Prop} {H : Hp} {v : V} {d : PyData} (h : Db B H v d) : decide (v = V.non) = DL.isNon d := by
  cases h <;> first | rfl | exact decide_eq_true rfl | exact decide_eq_false nofun
theorem cv_isN {j pos'} (ha : Ev bz X Γ a d) : Cv bz X Γ .Is a (.Constant .none j pos') (.bool (isNon d)) :=
  PC_mono (pc_isN ha) fun σ H Q ⟨c, R, k⟩ => ⟨c, R, fun v H1 s1 h1 => by
    show Q (.bl (decide (v = V.non))) H1
    rw [h1.isNon]
    exact k _ H1 s1 (.bl _)⟩
theorem cv_notN {j pos'} (ha : Ev bz X Γ a d) : Cv bz X Γ .IsNot a (.Constant .none j pos') (.bool (!isNon d)) :=
  PC_mono (pc_notN ha) fun σ H Q ⟨c, R, k⟩ => ⟨c, R, fun v H1 s1 h1 => by
    show Q (.bl (!decide (v = V.non))) H1
    rw [h1.isNon]
    exact k _ H1 s1 (.bl _)⟩

/-! ### and, or, not, if -/
theorem ev_one {op} (h : Ev bz X Γ a d) : Ev bz X Γ (.BoolOp op [a] pos) d := PE_mono (pe_one h) fun _ _ _ q => q
theorem ev_and {rest : List Expr} {x y : Bool} (ha : Ev bz X Γ a (.bool x)) (hb : x = true → Ev bz X Γ (.BoolOp .And (b :: rest) pos) (.bool y)) : Ev bz X Γ (.BoolOp .And (a :: b :: rest) pos) (.bool (x && y)) := by
  cases x
  · exact PE_mono (pe_and ha (tb := fun _ _ _ => False) ⟨fun _ _ _ _ _ _ h => h.elim⟩) fun σ H Q ⟨c, R, k⟩ => ⟨c, R, fun v H1 s1 h1 => by
      cases h1
      exact ⟨false, rfl, L2.iteF (k _ H1 s1 (.bl _))⟩⟩
  · exact PE_mono (pe_and ha (hb rfl)) fun σ H Q ⟨c, R, k⟩ => ⟨c, R, fun v H1 s1 h1 => by
      cases h1
      exact ⟨true, rfl, L2.iteT ⟨c, R.same s1, fun v2 H2 s2 h2 => k v2 H2 (s1.trans s2) h2⟩⟩⟩
theorem ev_or {rest : List Expr} {x y : Bool} (ha : Ev bz X Γ a (.bool x)) (hb : x = false → Ev bz X Γ (.BoolOp .Or (b :: rest) pos) (.bool y)) : Ev bz X Γ (.BoolOp .Or (a :: b :: rest) pos) (.bool (x || y)) := by
  cases x
  · exact PE_mono (pe_or ha (hb rfl)) fun σ H Q ⟨c, R, k⟩ => ⟨c, R, fun v H1 s1 h1 => by
      cases h1
      exact ⟨false, rfl, L2.iteF ⟨c, R.same s1, fun v2 H2 s2 h2 => k v2 H2 (s1.trans s2) h2⟩⟩⟩
  · exact PE_mono (pe_or ha (tb := fun _ _ _ => False) ⟨fun _ _ _ _ _ _ h => h.elim⟩) fun σ H Q ⟨c, R, k⟩ => ⟨c, R, fun v H1 s1 h1 => by
      cases h1
      exact ⟨true, rfl, L2.iteT (k _ H1 s1 (.bl _))⟩⟩
theorem ev_not {x : Bool} (ha : Ev bz X Γ a (.bool x)) : Ev bz X Γ (.UnaryOp .Not a pos) (.bool (!x)) :=
  PE_mono (pe_not ha) fun σ H Q ⟨c, R, k⟩ => ⟨c, R, fun v H1 s1 h1 => by cases h1; exact ⟨_, rfl, k _ H1 s1 (.bl _)⟩⟩
/-! ### tests -/
theorem tv_of {x : Bool} (h : Ev bz X Γ e (.bool x)) (he : ∀ whole, isTrue e X.env whole = (do let v ← whole; standAt e.pos; holding [v] (truthy v)) := by intro _; rfl) : Tv X Γ e x :=
  PT_mono (pt_val h he) fun σ H Q ⟨c, R, k⟩ => ⟨c, R, fun v H1 s1 h1 => by cases h1; exact ⟨x, rfl, k H1 s1⟩⟩
/-- a comparison as a value, as a test -/
theorem ev_c {op : CmpOp} (h : Cv bz X Γ op a b d) (hm : behindInMarks op b = false := by first | exact nobehind _ (by decide) (by decide) | rfl) : Ev bz X Γ (.Compare a [op] [b] pos) d := pe_cmp h hm
theorem tv_c {op : CmpOp} {x : Bool} (h : Cv bz X Γ op a b (.bool x)) (hm : behindInMarks op b = false := by first | exact nobehind _ (by decide) (by decide) | rfl) : Tv X Γ (.Compare a [op] [b] pos) x :=
  PT_mono (pt_cmp h hm) fun σ H Q ⟨c, R, k⟩ => ⟨c, R, fun v H1 s1 h1 => by cases h1; exact ⟨x, rfl, k H1 s1⟩⟩
theorem tw_and1 {x : Bool} (ha : Tv X Γ a x) : PW X (.BoolOp .And [a] pos) (tTv Γ x) := pw_and1 ha
theorem tw_or1 {x : Bool} (ha : Tv X Γ a x) : PW X (.BoolOp .Or [a] pos) (tTv Γ x) := pw_or1 ha
theorem tw_and {rest : List Expr} {x y : Bool} (ha : Tv X Γ a x) (hb : x = true → PW X (.BoolOp .And (b :: rest) pos) (tTv Γ y)) : PW X (.BoolOp .And (a :: b :: rest) pos) (tTv Γ (x && y)) := by
  cases x
  · exact PW_mono (pw_and ha (tB' := fun _ _ _ => False) ⟨fun _ _ _ _ _ _ _ h => h.elim⟩) fun σ H Q ⟨c, R, k⟩ => ⟨c, R, fun H1 s1 => L2.iteF (k H1 s1)⟩
  · exact PW_mono (pw_and ha (hb rfl)) fun σ H Q ⟨c, R, k⟩ => ⟨c, R, fun H1 s1 => L2.iteT ⟨c, R.same s1, fun H2 s2 => k H2 (s1.trans s2)⟩⟩
theorem tw_or {rest : List Expr} {x y : Bool} (ha : Tv X Γ a x) (hb : x = false → PW X (.BoolOp .Or (b :: rest) pos) (tTv Γ y)) : PW X (.BoolOp .Or (a :: b :: rest) pos) (tTv Γ (x || y)) := by
  cases x
  · exact PW_mono (pw_or ha (hb rfl)) fun σ H Q ⟨c, R, k⟩ => ⟨c, R, fun H1 s1 => L2.iteF ⟨c, R.same s1, fun H2 s2 => k H2 (s1.trans s2)⟩⟩
  · exact PW_mono (pw_or ha (tB' := fun _ _ _ => False) ⟨fun _ _ _ _ _ _ _ h => h.elim⟩) fun σ H Q ⟨c, R, k⟩ => ⟨c, R, fun H1 s1 => L2.iteT (k H1 s1)⟩
theorem tv_pw {x : Bool} (h : PW X e (tTv Γ x)) : Tv X Γ e x := h.pt
theorem tv_not {x : Bool} (ha : Tv X Γ a x) : Tv X Γ (.UnaryOp .Not a pos) (!x) := PT_mono (pt_not ha) fun σ H Q ⟨c, R, k⟩ => ⟨c, R, fun H1 s1 => k H1 s1⟩
theorem ev_if {x : Bool} {t : Expr} (ht : Tv X Γ t x) (ha : x = true → Ev bz X Γ a d1) (hb : x = false → Ev bz X Γ b d2) : Ev bz X Γ (.IfExp t a b pos) (if x = true then d1 else d2) := by
  cases x
  · exact PE_mono (pe_ifExp ht (ta := fun _ _ _ => False) ⟨fun _ _ _ _ _ _ h => h.elim⟩ (hb rfl)) fun σ H Q ⟨c, R, k⟩ => ⟨c, R, fun H1 s1 => L2.iteF ⟨c, R.same s1, fun v2 H2 s2 h2 => k v2 H2 (s1.trans s2) h2⟩⟩
  · exact PE_mono (pe_ifExp ht (ha rfl) (tb := fun _ _ _ => False) ⟨fun _ _ _ _ _ _ h => h.elim⟩) fun σ H Q ⟨c, R, k⟩ => ⟨c, R, fun H1 s1 => L2.iteT ⟨c, R.same s1, fun v2 H2 s2 h2 => k v2 H2 (s1.trans s2) h2⟩⟩
end
end DL

namespace DL
open PySem PySem.Spec PyProof.Rows L2

theorem same_new {H : Hp} {p : Addr} (h : H p = none) (o : HO) : Same H (upd H p o) := fun b u q => by rw [upd_ne (ne_of_none q h)]; exact q
theorem sl_ge : (1000000 : Nat) ≤ sizeLine := by rw [sizeLine_eq]; decide
theorem sl_of {n : Nat} (h : n ≤ 1000000) : n ≤ sizeLine := Nat.le_trans h sl_ge

section
variable {X : Cx} {bz : Bool} {Γ : DEnv} {a b e : Expr} {es : List Expr} {pos p : Pos} {d d1 d2 : PyData} {ds ds2 : List PyData}

/-! ### argument lists, displays -/
theorem av_nil : Av bz X Γ [] [] := PA_mono pa_nil fun σ H Q ⟨c, R, k⟩ => k [] H (Same.refl H) .nil
theorem av_cons (ha : Ev bz X Γ e d) (hr : Av bz X Γ es ds) (hs : starEach (e :: es) X.env = (false, eval e X.env) :: starEach es X.env := by rfl) : Av bz X Γ (e :: es) (d :: ds) :=
  PA_mono (pa_cons ha hr hs) fun σ H Q ⟨c, R, k⟩ => ⟨c, R, fun v H1 s1 h1 => ⟨c, R.same s1, fun vs H2 s2 h2 => k _ H2 (s1.trans s2) (.cons (h1.same s2) h2)⟩⟩
theorem DbAll.of_seq {B : Addr → Prop} {H : Hp} {v : V} (h : Db B H v d) (hs : isSeq d ds) : ∃ a xs, v = V.ref a ∧ (IsT H a xs ∨ IsL H a xs) ∧ DbAll B H xs ds := by
  rcases hs with rfl | rfl
  · cases h with
    | lst nb r h => exact ⟨_, _, rfl, .inr r, h⟩
  · cases h with
    | tup r h => exact ⟨_, _, rfl, .inl r, h⟩
theorem av_star (ha : Ev bz X Γ e d) (hr : Av bz X Γ es ds2) (hd : isSeq d ds) (hs : starEach (.Starred e p :: es) X.env = (true, eval e X.env) :: starEach es X.env := by rfl) : Av bz X Γ (.Starred e p :: es) (ds ++ ds2) :=
  PA_mono (StX.pa_star ha hr hs) fun σ H Q ⟨c, R, k⟩ => ⟨c, R, fun v H1 s1 h1 => by
    obtain ⟨a, xs, rfl, r, h⟩ := DbAll.of_seq h1 hd
    exact ⟨a, xs, rfl, r.imp IsT.sq IsL.sq, c, R.same s1, fun vs H2 s2 h2 => k _ H2 (s1.trans s2) ((h.same s2).append h2)⟩⟩
theorem bn_new {c : Ct} {σ : L2.St} {H : Hp} (R : REnv c σ H Γ) {q : Addr} (hq : H q = none) : ¬ bn bz c q := fun h => by
  obtain ⟨o, e, _⟩ := R.muta q (bn_le R q h)
  rw [hq] at e
  cases e
/-- a written tuple, told as the object that it is -/
def tTupS (t : TA) : TE := fun σ H Q => t σ H fun xs H1 => xs.length ≤ sizeLine ∧ ∀ p o, o.dict = none → H1 p = none → Q (.ref p) (upd H1 p (.frz o (.tup xs)))
theorem pe_tupS {x1} {t : TA} (h : PA X es t) : PE X (.Tuple es x1 pos) (tTupS t) := by
  refine ⟨fun pins s σ H Q I hq => ?_⟩
  refine wpAny_Tuple_spliced (thn (h.run pos pins s σ H _ I hq) fun us s1 ⟨xs, H1, I1, r, z, q⟩ => ⟨by rw [← r.length]; exact z, ?_⟩)
  have hf : H1 s1.heap.objs.size = none := I1.hok.fresh (Nat.le_refl _)
  refine ⟨.ref s1.heap.objs.size, upd H1 s1.heap.objs.size (.frz { cls := .type "tuple", data := .seq us.toArray } (.tup xs)), I1.laid (t' := s1.toks) (fun b u e => Heap.get?_push_of_some _ e) (Nat.le_refl _) ?_, rfl, q _ _ rfl hf⟩
  exact ⟨Heap.get?_push_size _ rfl, z, us, r, ⟨_, Heap.get?_push_size _ rfl, rfl, _, rfl⟩⟩
theorem isT_new {H : Hp} {p : Addr} {o : Obj} {xs : List V} (h : o.dict = none) (z : xs.length ≤ sizeLine) : IsT (upd H p (.frz o (.tup xs))) p xs := ⟨z, o, h, upd_same⟩
theorem isL_new {H : Hp} {p : Addr} {xs : List V} (z : xs.length ≤ sizeLine) : IsL (upd H p (.lst xs)) p xs := ⟨z, upd_same⟩
theorem cut_le {ds : List V} {n : Nat} (lo hi : Option Int) (h : ds.length ≤ n) : (cutV ds lo hi).length ≤ n := Nat.le_trans (cutV_length ds lo hi) h
theorem ev_tup {x1} (h : Av bz X Γ es ds) (hl : ds.length ≤ 1000000) : Ev bz X Γ (.Tuple es x1 pos) (.tuple ds) :=
  PE_mono (pe_tupS h) fun σ H Q ⟨c, R, k⟩ => ⟨c, R, fun vs H1 s1 h1 => ⟨by rw [h1.length]; exact sl_of hl, fun q o ho hq => k _ _ (s1.trans (same_new hq _)) (.tup (isT_new ho (by rw [h1.length]; exact sl_of hl)) (h1.same (same_new hq _)))⟩⟩
theorem ev_lst (h : Av bz X Γ es ds) (hl : ds.length ≤ 1000000) : Ev bz X Γ (.List es pos) (.list ds) :=
  PE_mono (pe_lst h) fun σ H Q ⟨c, R, k⟩ => ⟨c, R, fun vs H1 s1 h1 => ⟨by rw [h1.length]; exact sl_of hl, fun q hq =>
    k _ _ (s1.trans (same_new hq _)) (.lst (bn_new (R.same s1) hq) (isL_new (by rw [h1.length]; exact sl_of hl)) (h1.same (same_new hq _)))⟩⟩

/-! ### items, slices, +, * -/
theorem atI_db {B : Addr → Prop} {H : Hp} {vs : List V} {i : Int} (h : DbAll B H vs ds) (e : atI ds i = some d) : ∃ v, atI vs i = some v ∧ Db B H v d := by
  unfold atI at e ⊢
  rw [h.length]
  cases q : ixN ds.length i with
  | none => rw [q] at e; cases e
  | some j =>
    rw [q] at e
    exact h.get e
theorem ev_ix {i : Int} (ha : Ev bz X Γ a d1) (hb : Ev bz X Γ b (.int i)) (hs : isSeq d1 ds) (hi : atI ds i = some d) (hp : PlainIx b := by exact fun _ _ => rfl) : Ev bz X Γ (.Subscript a b pos) d :=
  PE_mono (pe_ix (ix_list.or ix_tup) ha hb hp) fun σ H Q ⟨c, R, k⟩ => ⟨c, R, fun v H1 s1 h1 => ⟨c, R.same s1, fun u H2 s2 h2 => by
    cases h2
    obtain ⟨q, xs, rfl, r, h⟩ := DbAll.of_seq (h1.same s2) hs
    obtain ⟨w, e1, e2⟩ := atI_db h hi
    rcases r with r | r
    · exact .inr ⟨q, xs, i, w, rfl, rfl, r.sq, e1, k w H2 (s1.trans s2) e2⟩
    · exact .inl ⟨q, xs, i, w, rfl, rfl, r.sq, e1, k w H2 (s1.trans s2) e2⟩⟩⟩
/-- a part of a slice -/
def tPv (bz : Bool) (Γ : DEnv) (o : Option Int) : L2.St → Hp → (Option Int → Hp → Prop) → Prop := fun σ H Q => ∃ c : Ct, REnv c σ H Γ ∧ ∀ H', Same H H' → Q o H'
abbrev Pv (bz : Bool) (X : Cx) (Γ : DEnv) (e : Option Expr) (o : Option Int) : Prop := PO X e (tPv bz Γ o)
theorem PO_mono {e : Option Expr} {t t' : L2.St → Hp → (Option Int → Hp → Prop) → Prop} (h : PO X e t) (m : ∀ σ H Q, t' σ H Q → t σ H Q) : PO X e t' := ⟨fun pins s σ H Q I hq => h.run pins s σ H Q I (m _ _ _ hq)⟩
theorem pv_none : Pv bz X Γ none none := PO_mono po_none fun σ H Q ⟨c, R, k⟩ => k H (Same.refl H)
theorem pv_some {i : Int} (h : Ev bz X Γ e (.int i)) : Pv bz X Γ (some e) (some i) := PO_mono (po_some h) fun σ H Q ⟨c, R, k⟩ => ⟨c, R, fun v H1 s1 h1 => by cases h1; exact ⟨i, rfl, k H1 s1⟩⟩
/-- what a slice takes -/
def cut (ds : List PyData) (lo hi : Option Int) : List PyData := (ds.drop (HT.sIx ds.length 0 lo)).take (HT.sIx ds.length ds.length hi - HT.sIx ds.length 0 lo)
theorem DbAll.cut {B : Addr → Prop} {H : Hp} {vs : List V} (h : DbAll B H vs ds) (lo hi : Option Int) : DbAll B H (cutV vs lo hi) (DL.cut ds lo hi) := by
  unfold cutV DL.cut
  rw [h.length]
  exact (h.drop _).take _
theorem cut_whole {lo hi : Option Int} (h : HT.sIx ds.length 0 lo = 0 ∧ HT.sIx ds.length ds.length hi = ds.length) : cut ds lo hi = ds := by
  unfold cut
  rw [h.1, h.2]
  simp
/-- the same kind of sequence, another content -/
def asSeq (d : PyData) (ds : List PyData) : PyData := match d with
  | .list _ => .list ds
  | _ => .tuple ds
def rSlS (K : PySem.W.Frag) : V → Option Int → Option Int → Hp → VK → Prop := fun x lo hi H Q => ∃ a xs, x = .ref a ∧ SqT K H a xs ∧
  (HT.sIx xs.length 0 lo = 0 ∧ HT.sIx xs.length xs.length hi = xs.length → Q (.ref a) H) ∧ (¬ (HT.sIx xs.length 0 lo = 0 ∧ HT.sIx xs.length xs.length hi = xs.length) → ∀ p o, o.dict = none → H p = none → Q (.ref p) (upd H p (.frz o (.tup (cutV xs lo hi)))))
theorem sl_tupS : SlR X (rSlS X.K) := by
  intro pins s σ H x v vl vu lo hi sl Q I rx hs pl pu h
  obtain ⟨a, xs, rfl, hx, q1, q2⟩ := h
  cases rx
  obtain ⟨its, r, ht, hz⟩ := I.tuple hx
  have hlen : its.toArray.size = xs.length := by rw [List.size_toArray]; exact r.length.symm
  refine ⟨"tuple", _, PyProof.Rows.slot_tuple_getitem.lookup, ht.typeIs, ?_⟩
  by_cases hw : HT.sIx xs.length 0 lo = 0 ∧ HT.sIx xs.length xs.length hi = xs.length
  · exact getItem_tuple_whole ht hs pl pu (by rw [hlen]; exact hw) ⟨.ref a, H, I, rfl, q1 hw⟩
  · refine HT.getItem_tuple_cut ht hs pl pu (by rw [hlen]; exact hw) ?_ (by rw [hlen]; exact hz)
    rw [hlen]
    refine ⟨.ref s.heap.objs.size, _, I.laid (t' := s.toks) (o := .frz { cls := .type "tuple", data := .seq ((its.toArray.toList.drop (HT.sIx xs.length 0 lo)).take (HT.sIx xs.length xs.length hi - HT.sIx xs.length 0 lo)).toArray } (.tup (cutV xs lo hi))) (fun b ob q => Heap.get?_push_of_some _ q) (Nat.le_refl _) ?_, rfl, q2 hw _ _ rfl (I.hok.fresh (Nat.le_refl _))⟩
    exact ⟨Heap.get?_push_size _ rfl, Nat.le_trans (cutV_length xs lo hi) hz, _, (r.drop (HT.sIx xs.length 0 lo)).take (HT.sIx xs.length xs.length hi - HT.sIx xs.length 0 lo), IsTup.new _ _⟩
theorem ev_slice {lo hi : Option Expr} {l u : Option Int} {p2} (ha : Ev bz X Γ e d1) (hl : Pv bz X Γ lo l) (hu : Pv bz X Γ hi u) (hs : isSeq d1 ds) : Ev bz X Γ (.Subscript e (.Slice lo hi none p2) pos) (asSeq d1 (cut ds l u)) :=
  PE_mono (pe_slice (sl_list.or sl_tupS) ha hl hu) fun σ H Q ⟨c, R, k⟩ => ⟨c, R, fun v H1 s1 h1 => ⟨c, R.same s1, fun H2 s2 => ⟨c, (R.same s1).same s2, fun H3 s3 => by
    have h3 := (h1.same s2).same s3
    have S := s1.trans (s2.trans s3)
    rcases hs with rfl | rfl
    · cases h3 with
      | lst nb r h => exact .inl ⟨_, _, rfl, r.sq, fun q hq => k _ _ (S.trans (same_new hq _)) (.lst (bn_new (R.same S) hq) (isL_new (cut_le _ _ r.1)) ((h.cut l u).same (same_new hq _)))⟩
    · cases h3 with
      | tup r h => exact .inr ⟨_, _, rfl, r.sq, fun w => by
            rw [h.length] at w
            refine k _ _ S ?_
            show Db _ _ _ (.tuple (cut ds l u))
            rw [cut_whole w]
            exact .tup r h, fun _ q o ho hq => k _ _ (S.trans (same_new hq _)) (.tup (isT_new ho (cut_le _ _ r.1)) ((h.cut l u).same (same_new hq _)))⟩⟩⟩⟩
def rCatS (K : PySem.W.Frag) : R2 := fun x y H Q => ∃ a b xs ys, x = .ref a ∧ y = .ref b ∧ SqT K H a xs ∧ SqT K H b ys ∧ xs.length + ys.length ≤ sizeLine ∧
  (xs = [] → Q (.ref b) H) ∧ (xs ≠ [] → ys = [] → Q (.ref a) H) ∧ (xs ≠ [] → ys ≠ [] → ∀ p o, o.dict = none → H p = none → Q (.ref p) (upd H p (.frz o (.tup (xs ++ ys)))))
theorem op_catS : OpR X (binaryOp .Add) (rCatS X.K) := by
  intro pins s σ H x y v u Q I rx ry h
  obtain ⟨a, b, xs, ys, rfl, rfl, ha, hb, hz, q0, q1, q2⟩ := h
  cases rx
  cases ry
  obtain ⟨its, r1, p1, _⟩ := I.tuple ha
  obtain ⟨its2, r2, p2, _⟩ := I.tuple hb
  by_cases hx : xs = []
  · subst hx
    cases r1
    exact cat_tup0 p1 p2 ⟨.ref b, H, I, rfl, q0 rfl⟩
  · refine HT.cat_tup p1 p2 (fun z => hx (r1.nil_iff.mp z)) (fun z => ⟨.ref a, H, I, rfl, q1 hx (r2.nil_iff.mp z)⟩) (fun z => ?_) (by rw [← r1.length, ← r2.length]; exact hz)
    refine ⟨.ref s.heap.objs.size, _, I.laid (t' := s.toks) (o := .frz { cls := .type "tuple", data := .seq (its ++ its2).toArray } (.tup (xs ++ ys))) (fun b ob q => Heap.get?_push_of_some _ q) (Nat.le_refl _) ?_, rfl, q2 hx (fun w => z (r2.nil_iff.mpr w)) _ _ rfl (I.hok.fresh (Nat.le_refl _))⟩
    exact ⟨Heap.get?_push_size _ rfl, by rw [List.length_append]; exact hz, _, r1.append r2, IsTup.new _ _⟩
theorem ev_catT (ha : Ev bz X Γ a (.tuple ds)) (hb : Ev bz X Γ b (.tuple ds2)) (hl : ds.length + ds2.length ≤ 1000000) : Ev bz X Γ (.BinOp a .Add b pos) (.tuple (ds ++ ds2)) :=
  ev_op op_catS (fun B v u H Q h1 h2 nb k => by
    cases h1 with
    | tup r1 h1 =>
      cases h2 with
      | tup r2 h2 =>
        refine ⟨_, _, _, _, rfl, rfl, r1.sq, r2.sq, by rw [h1.length, h2.length]; exact sl_of hl, fun e => ?_, fun _ e => ?_, fun _ _ q o ho hq => ?_⟩
        · subst e
          cases h1
          exact k _ H (Same.refl H) (.tup r2 h2)
        · subst e
          cases h2
          rw [List.append_nil] at k
          exact k _ H (Same.refl H) (.tup r1 h1)
        · exact k _ _ (same_new hq _) (.tup (isT_new ho (by rw [List.length_append, h1.length, h2.length]; exact sl_of hl)) ((h1.append h2).same (same_new hq _)))) ha hb
theorem ev_catL (ha : Ev bz X Γ a (.list ds)) (hb : Ev bz X Γ b (.list ds2)) (hl : ds.length + ds2.length ≤ 1000000) : Ev bz X Γ (.BinOp a .Add b pos) (.list (ds ++ ds2)) :=
  ev_op op_cat (fun B v u H Q h1 h2 nb k => by
    cases h1 with
    | lst n1 r1 h1 =>
      cases h2 with
      | lst n2 r2 h2 =>
        exact ⟨_, _, _, _, rfl, rfl, r1.2, r2.2, by rw [h1.length, h2.length]; exact sl_of hl, fun q hq => k _ _ (same_new hq _) (.lst (fun z => nb q z hq) (isL_new (by rw [List.length_append, h1.length, h2.length]; exact sl_of hl)) ((h1.append h2).same (same_new hq _)))⟩) ha hb
theorem DbAll.rep {B : Addr → Prop} {H : Hp} {vs : List V} (h : DbAll B H vs ds) : ∀ n : Nat, DbAll B H (List.replicate n vs).flatten (List.replicate n ds).flatten
  | 0 => .nil
  | n + 1 => by
    rw [List.replicate_succ, List.replicate_succ, List.flatten_cons, List.flatten_cons]
    exact h.append (DbAll.rep h n)
theorem rep_le {vs : List V} {n : Nat} (h : vs.length = ds.length) (hl : ds.length * n ≤ 1000000) : (List.replicate n vs).flatten.length ≤ sizeLine := by
  rw [PyProof.Rows.lm_len_rep_flat, h, Nat.mul_comm]
  exact sl_of hl
theorem ev_repL {i : Int} (ha : Ev bz X Γ a (.list ds)) (hb : Ev bz X Γ b (.int i)) (hi : -1000000 ≤ i ∧ i ≤ 1000000) (hl : ds.length * i.toNat ≤ 1000000) : Ev bz X Γ (.BinOp a .Mult b pos) (.list (List.replicate i.toNat ds).flatten) :=
  ev_op op_rep (fun B v u H Q h1 h2 nb k => by
    cases h2
    cases h1 with
    | lst n1 r1 h1 =>
      exact ⟨_, _, _, rfl, rfl, r1.2, by omega, by omega, by rw [h1.length]; exact sl_of hl, fun q hq => k _ _ (same_new hq _) (.lst (fun z => nb q z hq) (isL_new (rep_le h1.length hl)) ((h1.rep _).same (same_new hq _)))⟩) ha hb

/-! ### calls of what is built in -/
/-- a built-in, by data -/
def rB (P : List PyData → PyData → Prop) : List V → Hp → VK → Prop := fun vs H Q => ∃ (B : Addr → Prop) (ds : List PyData) (d : PyData), DbAll B H vs ds ∧ (∀ b, B b → H b ≠ none) ∧ P ds d ∧ ∀ v H', Same H H' → Db B H' v d → Q v H'
theorem ev_call {id : String} {x : Str} {P : List PyData → PyData → Prop} (hc : CallR X (.builtin id) (rB P)) (hm : X.mg x = none) (ha : Av bz X Γ (e :: es) ds) (hp : P ds d) (hg : Gl X x := by rfl) (hv : bootBuiltins x = some (.builtin id) := by decide +kernel)
    (hn : x ≠ "__name__" := by decide) (hdb : (x == ("__debug__" : Str)) = false := by decide)
    (he : starEach (e :: es) X.env = (false, eval e X.env) :: starEach es X.env := by rfl) (hpl : (backTo pos (starEach es X.env)).any (·.1) = false := by rfl) : Ev bz X Γ (.Call (.Name x p) (e :: es) [] pos) d :=
  PE_mono (pe_callB hc hg hm hv ha hn hdb he hpl) fun σ H Q ⟨c, R, k⟩ => ⟨c, R, fun vs H1 s1 h1 => ⟨bn bz c, ds, d, h1, fun b hb => by obtain ⟨o, e, _⟩ := (R.same s1).muta b (bn_le R b hb); rw [e]; exact nofun, hp, fun v H2 s2 h2 => k v H2 (s1.trans s2) h2⟩⟩
theorem ev_callT {T : String} {x : Str} {P : List PyData → PyData → Prop} (hc : CallR X (.type T) (rB P)) (hm : X.mg x = none) (ha : Av bz X Γ (e :: es) ds) (hp : P ds d) (hg : Gl X x := by rfl) (hv : bootBuiltins x = some (.type T) := by decide +kernel)
    (hn : x ≠ "__name__" := by decide) (hdb : (x == ("__debug__" : Str)) = false := by decide)
    (he : starEach (e :: es) X.env = (false, eval e X.env) :: starEach es X.env := by rfl) (hpl : (backTo pos (starEach es X.env)).any (·.1) = false := by rfl) : Ev bz X Γ (.Call (.Name x p) (e :: es) [] pos) d :=
  PE_mono (pe_callTy hc hg hm hv ha hn hdb he hpl) fun σ H Q ⟨c, R, k⟩ => ⟨c, R, fun vs H1 s1 h1 => ⟨bn bz c, ds, d, h1, fun b hb => by obtain ⟨o, e, _⟩ := (R.same s1).muta b (bn_le R b hb); rw [e]; exact nofun, hp, fun v H2 s2 h2 => k v H2 (s1.trans s2) h2⟩⟩
end
/-! ### len, sum, all, any, min, max .. -/
section
variable {X : Cx}
def isLen (d : PyData) (n : Nat) : Prop := match d with
  | .list ds => ds.length = n
  | .tuple ds => ds.length = n
  | .str x => x.length = n ∧ n ≤ 1000000
  | _ => False
theorem cr_len : CallR X (.builtin "len") (rB fun ds d => ∃ e n, ds = [e] ∧ isLen e n ∧ d = .int (n : Nat)) := by
  rintro pins s σ H xs us Q I r ⟨B, ds, d, h, nb, ⟨e, n, rfl, hl, rfl⟩, q⟩
  cases h with
  | cons h t =>
    cases t
    cases h with
    | lst n1 r1 h1 =>
      exact call_len_seq pins s σ H _ us Q I r ⟨_, _, rfl, .inl r1.sq, by rw [h1.length]; rw [show _ = _ from hl]; exact q _ H (Same.refl H) (.int _)⟩
    | tup r1 h1 =>
      exact call_len_seq pins s σ H _ us Q I r ⟨_, _, rfl, .inr r1.sq, by rw [h1.length]; rw [show _ = _ from hl]; exact q _ H (Same.refl H) (.int _)⟩
    | str x => exact call_len_str pins s σ H _ us Q I r ⟨_, rfl, by rw [hl.1]; exact sl_of hl.2, by rw [hl.1]; exact q _ H (Same.refl H) (.int _)⟩
    | non => exact hl.elim
    | bl _ => exact hl.elim
    | int _ => exact hl.elim
    | dK _ _ _ => exact hl.elim
    | dT _ _ _ => exact hl.elim
theorem Vals.one {v : V} {us : List Value} (r : Vals [v] us) : ∃ u, us = [u] ∧ RelV v u := by
  cases r with
  | cons r t => cases t; exact ⟨_, rfl, r⟩
theorem Vals.two {v w : V} {us : List Value} (r : Vals [v, w] us) : ∃ u z, us = [u, z] ∧ RelV v u ∧ RelV w z := by
  cases r with
  | cons r t =>
    obtain ⟨z, rfl, r2⟩ := Vals.one t
    exact ⟨_, _, rfl, r, r2⟩
/-- a sequence of data as the model has it -/
theorem seq_reads {pins : List (Addr × Obj)} {s : Shared} {σ : L2.St} {H : Hp} {B : Addr → Prop} {v : V} {u : Value} {d : PyData} {ds : List PyData} (I : Inv X pins σ H s) (h : Db B H v d) (hs : isSeq d ds) (hp : PyData.plainAll ds = true) (r : RelV v u) :
    ∃ (a : Addr) (vs : List V) (its : List Value) (as : List Addr), u = .ref a ∧ v = .ref a ∧ DbAll B H vs ds ∧ Vals vs its ∧ ReadsAll s.heap its ds as ∧ its.length ≤ sizeLine ∧ (s.heap.IsList a its.toArray ∨ s.heap.IsTuple a its.toArray) := by
  rcases hs with rfl | rfl
  · cases h with
    | lst nb e h =>
      cases r
      obtain ⟨its, rv, p, z⟩ := I.list e.sq
      obtain ⟨as, ra⟩ := h.reads I hp rv
      exact ⟨_, _, its, as, rfl, rfl, h, rv, ra, by rw [← rv.length]; exact z, .inl p.isList⟩
  · cases h with
    | tup e h =>
      cases r
      obtain ⟨its, rv, p, z⟩ := I.tuple e.sq
      obtain ⟨as, ra⟩ := h.reads I hp rv
      exact ⟨_, _, its, as, rfl, rfl, h, rv, ra, by rw [← rv.length]; exact z, .inr p⟩
theorem fits_small {ds : List PyData} (h : ∀ x ∈ ds, ∃ b, x = .bool b) : ∀ x ∈ ds, x.fits63 := fun x hx => by
  obtain ⟨b, rfl⟩ := h x hx
  trivial
theorem plain_bools : ∀ bs : List Bool, PyData.plainAll (bs.map .bool) = true
  | [] => rfl
  | b :: bs => by rw [List.map_cons, PyData.plainAll, plain_bools bs]; rfl
theorem plain_ints : ∀ bs : List Int, PyData.plainAll (bs.map .int) = true
  | [] => rfl
  | b :: bs => by rw [List.map_cons, PyData.plainAll, plain_ints bs]; rfl
theorem any_bools (bs : List Bool) : (bs.map PyData.bool).any PyData.truthy = bs.any id := by
  induction bs with
  | nil => rfl
  | cons b bs ih => rw [List.map_cons, List.any_cons, ih, List.any_cons]; rfl
theorem all_bools (bs : List Bool) : (bs.map PyData.bool).all PyData.truthy = bs.all id := by
  induction bs with
  | nil => rfl
  | cons b bs ih => rw [List.map_cons, List.all_cons, ih, List.all_cons]; rfl
theorem cr_any (g : XG X.calm X.A X.N) : CallR X (.builtin "any") (rB fun ds d => ∃ (e : PyData) (bs : List Bool), ds = [e] ∧ isSeq e (bs.map .bool) ∧ d = .bool (bs.any id)) := by
  rintro pins s σ H xs us Q I r ⟨B, ds, d, h, nb, ⟨e, bs, rfl, hs, rfl⟩, q⟩
  cases h with
  | cons h t =>
    cases t
    obtain ⟨u, rfl, ru⟩ := Vals.one r
    obtain ⟨a, vs, its, as, rfl, rfl, ha, rv, ra, hz, hl⟩ := seq_reads I h hs (plain_bools bs) ru
    have hf : ∀ x ∈ bs.map PyData.bool, x.fits63 := fits_small fun x hx => by obtain ⟨b, _, rfl⟩ := List.mem_map.mp hx; exact ⟨b, rfl⟩
    have fin : ∀ h' tk, (∀ b o, s.heap.get? b = some o → h'.get? b = some o) → EP X pins σ Q (.bool ((bs.map PyData.bool).any PyData.truthy)) { s with heap := h', toks := tk } := fun h' tk k => by
      rw [any_bools]
      exact ⟨.bl _, H, I.kept (t' := tk) k, rfl, q _ H (Same.refl H) (.bl _)⟩
    rcases hl with hl | hl
    · exact PySem.W.any_list_data g.hd hl (by simpa using ra) (plain_bools bs) hf fin
    · exact PySem.W.any_tuple_data g.hd hl (by simpa using ra) (plain_bools bs) hf fin
theorem cr_all (g : XG X.calm X.A X.N) : CallR X (.builtin "all") (rB fun ds d => ∃ (e : PyData) (bs : List Bool), ds = [e] ∧ isSeq e (bs.map .bool) ∧ d = .bool (bs.all id)) := by
  rintro pins s σ H xs us Q I r ⟨B, ds, d, h, nb, ⟨e, bs, rfl, hs, rfl⟩, q⟩
  cases h with
  | cons h t =>
    cases t
    obtain ⟨u, rfl, ru⟩ := Vals.one r
    obtain ⟨a, vs, its, as, rfl, rfl, ha, rv, ra, hz, hl⟩ := seq_reads I h hs (plain_bools bs) ru
    have hf : ∀ x ∈ bs.map PyData.bool, x.fits63 := fits_small fun x hx => by obtain ⟨b, _, rfl⟩ := List.mem_map.mp hx; exact ⟨b, rfl⟩
    have fin : ∀ h' tk, (∀ b o, s.heap.get? b = some o → h'.get? b = some o) → EP X pins σ Q (.bool ((bs.map PyData.bool).all PyData.truthy)) { s with heap := h', toks := tk } := fun h' tk k => by
      rw [all_bools]
      exact ⟨.bl _, H, I.kept (t' := tk) k, rfl, q _ H (Same.refl H) (.bl _)⟩
    rcases hl with hl | hl
    · exact PySem.W.all_list_data g.hd hl (by simpa using ra) (plain_bools bs) hf fin
    · exact PySem.W.all_tuple_data g.hd hl (by simpa using ra) (plain_bools bs) hf fin
/-- what min, max ask -/
def ordC (ds : List PyData) : Prop := smallAll ds = true ∧ PySem.W.AlikeAll ds
theorem best_at {pins : List (Addr × Obj)} {s : Shared} {σ : L2.St} {H : Hp} {B : Addr → Prop} {vs : List V} {its : List Value} {ds : List PyData} {as bs : List Addr} {i : Nat} {u : Value} {h' : Heap} {m : PyData}
    (I : Inv X pins σ H s) (h : DbAll B H vs ds) (rv : Vals vs its) (ra : ReadsAll s.heap its ds as) (hp : PyData.plainAll ds = true) (hi : its.toArray[i]? = some u) (k : ∀ b o, s.heap.get? b = some o → h'.get? b = some o) (rm : Reads h' u m bs) : ∃ v, RelV v u ∧ Db B H v m := by
  have hi' : its[i]? = some u := by simpa using hi
  have hlt : i < its.length := (List.getElem?_eq_some_iff.mp hi').1
  have hd : ds[i]? = some (ds[i]'(by rw [← h.length, rv.length]; exact hlt)) := List.getElem?_eq_getElem _
  obtain ⟨v, hv, hdb⟩ := h.get hd
  obtain ⟨u', hu', ru⟩ := rv.get hv
  rw [hi'] at hu'
  cases hu'
  have pd : (ds[i]'(by rw [← h.length, rv.length]; exact hlt)).plain = true := PySem.W.plain_mem hp (List.getElem_mem _)
  obtain ⟨cs, rd⟩ := hdb.reads I pd ru
  have e := SeqAt.plain_unique _ _ _ _ _ pd (PyProof.Rows.Reads.keeps k rd) rm
  rw [e] at hdb
  exact ⟨v, ru, hdb⟩
theorem cr_min (g : XG X.calm X.A X.N) : CallR X (.builtin "min") (rB fun ds d => ∃ (e x : PyData) (xs : List PyData), ds = [e] ∧ isSeq e (x :: xs) ∧ ordC (x :: xs) ∧ d = PySem.W.minD x xs) := by
  rintro pins s σ H xs us Q I r ⟨B, ds, d, h, nb, ⟨e, x, xs', rfl, hs, ho, rfl⟩, q⟩
  cases h with
  | cons h t =>
    cases t
    obtain ⟨u, rfl, ru⟩ := Vals.one r
    obtain ⟨hp, hdp⟩ := smallAll_iff.mp ho.1
    obtain ⟨a, vs, its, as, rfl, rfl, ha, rv, ra, hz, hl⟩ := seq_reads I h hs hp ru
    have fin : ∀ (i : Nat) v h' tk bs, its.toArray[i]? = some v → Reads h' v (PySem.W.minD x xs') bs → (∀ b o, s.heap.get? b = some o → h'.get? b = some o) → EP X pins σ Q v { s with heap := h', toks := tk } := fun i v h' tk bs hi rm k => by
      obtain ⟨y, ry, hy⟩ := best_at I ha rv ra hp hi k rm
      exact ⟨y, H, I.kept (t' := tk) k, ry, q _ H (Same.refl H) hy⟩
    have hu : X.A.units + 1 + PyData.depthAll (x :: xs') < cLine := by have := g.un; omega
    rcases hl with hl | hl
    · exact PySem.W.min_list_data g.hd hl (by simpa using ra) ho.2 hu fin
    · exact PySem.W.min_tuple_data g.hd hl (by simpa using ra) ho.2 hu fin
theorem cr_max (g : XG X.calm X.A X.N) : CallR X (.builtin "max") (rB fun ds d => ∃ (e x : PyData) (xs : List PyData), ds = [e] ∧ isSeq e (x :: xs) ∧ ordC (x :: xs) ∧ d = PySem.W.maxD x xs) := by
  rintro pins s σ H xs us Q I r ⟨B, ds, d, h, nb, ⟨e, x, xs', rfl, hs, ho, rfl⟩, q⟩
  cases h with
  | cons h t =>
    cases t
    obtain ⟨u, rfl, ru⟩ := Vals.one r
    obtain ⟨hp, hdp⟩ := smallAll_iff.mp ho.1
    obtain ⟨a, vs, its, as, rfl, rfl, ha, rv, ra, hz, hl⟩ := seq_reads I h hs hp ru
    have fin : ∀ (i : Nat) v h' tk bs, its.toArray[i]? = some v → Reads h' v (PySem.W.maxD x xs') bs → (∀ b o, s.heap.get? b = some o → h'.get? b = some o) → EP X pins σ Q v { s with heap := h', toks := tk } := fun i v h' tk bs hi rm k => by
      obtain ⟨y, ry, hy⟩ := best_at I ha rv ra hp hi k rm
      exact ⟨y, H, I.kept (t' := tk) k, ry, q _ H (Same.refl H) hy⟩
    have hu : X.A.units + 1 + PyData.depthAll (x :: xs') < cLine := by have := g.un; omega
    rcases hl with hl | hl
    · exact PySem.W.max_list_data g.hd hl (by simpa using ra) ho.2 hu fin
    · exact PySem.W.max_tuple_data g.hd hl (by simpa using ra) ho.2 hu fin
theorem cr_abs : CallR X (.builtin "abs") (rB fun ds d => ∃ i : Int, ds = [.int i] ∧ d = .int (if i < 0 then -i else i)) := by
  rintro pins s σ H xs us Q I r ⟨B, ds, d, h, nb, ⟨i, rfl, rfl⟩, q⟩
  cases h with
  | cons h t =>
    cases t
    cases h
    exact call_abs pins s σ H _ us Q I r ⟨i, rfl, q _ H (Same.refl H) (.int _)⟩
theorem cr_max2 (g : XG X.calm X.A X.N) : CallR X (.builtin "max") (rB fun ds d => ∃ i j : Int, ds = [.int i, .int j] ∧ d = .int (if j > i then j else i)) := by
  rintro pins s σ H xs us Q I r ⟨B, ds, d, h, nb, ⟨i, j, rfl, rfl⟩, q⟩
  cases h with
  | cons h t =>
    cases h
    cases t with
    | cons h t =>
      cases h
      cases t
      exact call_max2 g.calm pins s σ H _ us Q I r ⟨i, j, rfl, q _ H (Same.refl H) (.int _)⟩
theorem cr_min2 (g : XG X.calm X.A X.N) : CallR X (.builtin "min") (rB fun ds d => ∃ i j : Int, ds = [.int i, .int j] ∧ d = .int (if j < i then j else i)) := by
  rintro pins s σ H xs us Q I r ⟨B, ds, d, h, nb, ⟨i, j, rfl, rfl⟩, q⟩
  cases h with
  | cons h t =>
    cases h
    cases t with
    | cons h t =>
      cases h
      cases t
      exact call_min2 g.calm pins s σ H _ us Q I r ⟨i, j, rfl, q _ H (Same.refl H) (.int _)⟩
theorem cr_int : CallR X (.type "int") (rB fun ds d => (∃ i : Int, ds = [.int i] ∧ d = .int i) ∨ ∃ b : Bool, ds = [.bool b] ∧ d = .int (if b = true then 1 else 0)) := by
  rintro pins s σ H xs us Q I r ⟨B, ds, d, h, nb, hp, q⟩
  rcases hp with ⟨i, rfl, rfl⟩ | ⟨i, rfl, rfl⟩
  · cases h with
    | cons h t =>
      cases t
      cases h
      exact call_int1 pins s σ H _ us Q I r (.inl ⟨i, rfl, q _ H (Same.refl H) (.int _)⟩)
  · cases h with
    | cons h t =>
      cases t
      cases h
      exact call_int1 pins s σ H _ us Q I r (.inr ⟨i, rfl, q _ H (Same.refl H) (.int _)⟩)
theorem call_tupleS : CallR X (.type "tuple") (fun xs H Q => ∃ p ys, xs = [.ref p] ∧ ((SqL X.K H p ys ∧ ∀ l o, o.dict = none → H l = none → Q (.ref l) (upd H l (.frz o (.tup ys)))) ∨ (SqT X.K H p ys ∧ Q (.ref p) H))) := by
  intro pins s σ H xs us Q I r h
  obtain ⟨p, ys, rfl, h⟩ := h
  obtain ⟨u, rfl, rx⟩ := vals1 r
  cases rx
  rcases h with ⟨hq, q⟩ | ⟨hq, q⟩
  · obtain ⟨its, r', pl, hz⟩ := I.list hq
    have hlen := r'.length
    refine call_tuple_list pl.isList (fun h' kp => ?_) (by simp only [List.size_toArray] <;> omega)
    have I1 : Inv X pins σ H { s with heap := h' } := I.kept (t' := s.toks) kp
    have I2 : Inv X pins σ (upd H h'.objs.size (.frz { cls := .type "tuple", data := .seq its.toArray } (.tup ys))) { s with heap := h'.push { cls := .type "tuple", data := .seq its.toArray } } :=
      I1.laid (t' := s.toks) (fun b o e => Heap.get?_push_of_some _ e) (Nat.le_refl _) (show ObjOk X.prog X.w _ _ _ (.frz _ (.tup ys)) from ⟨Heap.get?_push_size _ rfl, hz, its, r', IsTup.new _ _⟩)
    exact ⟨.ref h'.objs.size, _, I2, rfl, q _ _ rfl (I1.hok.fresh (Nat.le_refl _))⟩
  · obtain ⟨its, r', pl, hz⟩ := I.tuple hq
    exact call_tuple_same pl ⟨.ref p, H, I, rfl, q⟩
theorem cr_tuple : CallR X (.type "tuple") (rB fun ds d => ∃ (e : PyData) (xs : List PyData), ds = [e] ∧ isSeq e xs ∧ d = .tuple xs) := by
  rintro pins s σ H xs us Q I r ⟨B, ds, d, h, nb, ⟨e, xs', rfl, hs, rfl⟩, q⟩
  cases h with
  | cons h t =>
    cases t
    obtain ⟨a, ys, rfl, ra, ha⟩ := DbAll.of_seq h hs
    refine call_tupleS pins s σ H _ us Q I r ⟨a, ys, rfl, ?_⟩
    rcases ra with ra | ra
    · exact .inr ⟨ra.sq, q _ H (Same.refl H) (.tup ra ha)⟩
    · exact .inl ⟨ra.sq, fun l o ho hl => q _ _ (same_new hl _) (.tup (isT_new ho ra.1) (ha.same (same_new hl _)))⟩
theorem cr_list : CallR X (.type "list") (rB fun ds d => ∃ (e : PyData) (xs : List PyData), ds = [e] ∧ isSeq e xs ∧ d = .list xs) := by
  rintro pins s σ H xs us Q I r ⟨B, ds, d, h, nb, ⟨e, xs', rfl, hs, rfl⟩, q⟩
  cases h with
  | cons h t =>
    cases t
    obtain ⟨a, ys, rfl, ra, ha⟩ := DbAll.of_seq h hs
    exact call_list_of pins s σ H _ us Q I r ⟨a, ys, rfl, ra.symm.imp IsL.sq IsT.sq, fun l hl => q _ _ (same_new hl _) (.lst (fun z => nb l z hl) (isL_new (ra.elim (·.1) (·.1))) (ha.same (same_new hl _)))⟩
end
end DL

namespace DL
open PySem PySem.Spec PyProof.Rows L2

/-! ### a list or a tuple that is walked -/
def Sq (b : Bool) (H : Hp) (a : Addr) (xs : List V) : Prop := if b = true then IsT H a xs else IsL H a xs
def ItA (b : Bool) (h : Heap) (it a : Addr) (i : Nat) : Prop := if b = true then h.IsTupleIter it a i else h.IsListIter it a i
def IsA (b : Bool) (h : Heap) (a : Addr) (its : Array Value) : Prop := if b = true then h.IsTuple a its else h.IsList a its
section
variable {b : Bool} {h h' : Heap} {it a : Addr} {i : Nat} {its : Array Value}
theorem ItA.at' (x : ItA b h it a i) (k : ∀ o, h.get? it = some o → h'.get? it = some o) : ItA b h' it a i := by
  cases b
  · exact Heap.IsListIter.at x k
  · exact Heap.IsTupleIter.at x k
theorem ItA.obj (x : ItA b h it a i) : ∃ o, h.get? it = some o ∧ ∀ v, o.data ≠ .cell v := by
  cases b
  · obtain ⟨o, e, _, d⟩ := x
    exact ⟨o, e, fun v q => by rw [d] at q; cases q⟩
  · obtain ⟨o, e, _, d⟩ := x
    exact ⟨o, e, fun v q => by rw [d] at q; cases q⟩
theorem ItA.lt (x : ItA b h it a i) : it < h.objs.size := by
  obtain ⟨o, e, _⟩ := x.obj
  exact Heap.lt_size e
theorem IsA.at' (x : IsA b h a its) (k : ∀ o, h.get? a = some o → h'.get? a = some o) : IsA b h' a its := by
  cases b
  · exact Heap.IsList.at x k
  · exact Heap.IsTuple.at x k
def itObj (b : Bool) (a : Addr) : Obj := if b = true then { cls := .type "tuple_iterator", data := .fields #[.ref a, .int 0 0] } else { cls := .type "list_iterator", data := .fields #[.ref a, .int 0 0] }
theorem begA (b : Bool) (a : Addr) (its : Array Value) : Begins (.ref a) (itObj b a) fun h => IsA b h a its := by
  cases b
  · exact begins_list a its
  · exact begins_tuple a its
theorem itA_new (b : Bool) (e : h.get? it = some (itObj b a)) : ItA b h it a 0 := by
  cases b
  · exact ⟨_, e, rfl, rfl⟩
  · exact ⟨_, e, rfl, rfl⟩
theorem drA {prog : Program} {w : World} {A : Around} (hh : A.handled = none) (b : Bool) (it a : Addr) (hne : a ≠ it) (its : Array Value) :
    Draws prog w A it [it, a] its.size (fun i v => its[i]? = some v) (fun i h => ItA b h it a i ∧ IsA b h a its) := by
  cases b
  · exact Draws.list hh it a hne its
  · exact Draws.tuple hh it a hne its
end
section
variable {X : Cx} {pins : List (Addr × Obj)} {σ : L2.St} {H : Hp} {s : Shared} {a : Addr} {xs ys : List V} {b : Bool}
theorem Sq.get (I : Inv X pins σ H s) (h : Sq b H a xs) : ∃ its : List Value, Vals xs its ∧ IsA b s.heap a its.toArray ∧ xs.length ≤ sizeLine ∧ a < s.heap.objs.size := by
  cases b
  · obtain ⟨its, rv, p, z⟩ := I.list (IsL.sq h)
    exact ⟨its, rv, p.isList, z, p.lt⟩
  · obtain ⟨its, rv, p, z⟩ := I.tuple (IsT.sq h)
    exact ⟨its, rv, p, z, p.lt⟩
theorem Sq.inj (h : Sq b H a xs) (h' : Sq b H a ys) : xs = ys := by
  unfold Sq at h h'
  cases b
  · rw [if_neg (by decide)] at h h'
    have e := h.2.symm.trans h'.2
    simpa using e
  · rw [if_pos rfl] at h h'
    obtain ⟨_, o, _, e⟩ := h
    obtain ⟨_, o', _, e'⟩ := h'
    rw [e] at e'
    simp only [Option.some.injEq, HO.frz.injEq, HO.tup.injEq] at e'
    exact e'.2
end

/-! ### zip of two -/
def Jz2 (b1 b2 : Bool) (a1 a2 : Addr) : It :=
  ⟨fun i H => ∃ (xs ys : List V) (x y : V), Sq b1 H a1 xs ∧ Sq b2 H a2 ys ∧ xs[i]? = some x ∧ ys[i]? = some y,
    fun i H v H' => ∃ T x y o, v = .ref T ∧ H T = none ∧ o.dict = none ∧ H' = upd H T (.frz o (.tup [x, y])) ∧ (∀ xs, Sq b1 H a1 xs → xs[i]? = some x) ∧ ∀ ys, Sq b2 H a2 ys → ys[i]? = some y,
    fun i H => ∃ xs ys : List V, Sq b1 H a1 xs ∧ Sq b2 H a2 ys ∧ i ≤ xs.length ∧ i ≤ ys.length ∧ (i = xs.length ∨ i = ys.length)⟩
structure Sep2 (z TI TO i1 i2 a1 a2 : Addr) : Prop where
  d : z ≠ TI ∧ z ≠ TO ∧ z ≠ i1 ∧ z ≠ i2 ∧ TI ≠ TO ∧ TI ≠ i1 ∧ TI ≠ i2 ∧ TO ≠ i1 ∧ TO ≠ i2 ∧ i1 ≠ i2
  a : ∀ c, c = z ∨ c = TI ∨ c = TO ∨ c = i1 ∨ c = i2 → c ≠ a1 ∧ c ≠ a2
theorem Sep2.sep {z TI TO i1 i2 a1 a2 : Addr} (D : Sep2 z TI TO i1 i2 a1 a2) : ZipSep2 z TI TO i1 i2 [i1, a1] [i2, a2] := by
  obtain ⟨⟨h1, h2, h3, h4, h5, h6, h7, h8, h9, h10⟩, k⟩ := D
  have kz := k z (by simp)
  have kTO := k TO (by simp)
  have k1 := k i1 (by simp)
  have k2 := k i2 (by simp)
  exact ⟨h1.symm, h2.symm, h5, h6, by simp, by simp [h3, kz.1], by simp [h8, kTO.1], h7, by simp, by simp [h4, kz.2], by simp [h9, kTO.2], by simp [h10, k1.2], by simp [h10.symm, k2.1]⟩
theorem sep2_of {n a1 a2 : Nat} (h1 : a1 < n) (h2 : a2 < n) : Sep2 (n + 4) (n + 2) (n + 3) n (n + 1) a1 a2 := by
  refine ⟨⟨?_, ?_, ?_, ?_, ?_, ?_, ?_, ?_, ?_, ?_⟩, fun c hc => ?_⟩
  all_goals first
    | (show (_ : Nat) ≠ _; omega)
    | (rcases hc with e | e | e | e | e <;> (rw [e]; constructor <;> (show (_ : Nat) ≠ _; omega)))
theorem turn_z2 {P : Program} {w : World} {K : PySem.W.Frag} {elts : List Expr} {kk : Nat} {tpos : Pos} {b1 b2 : Bool} {a1 a2 z TI TO i1 i2 : Addr} (D : Sep2 z TI TO i1 i2 a1 a2) :
    Turn P w K (.Tuple elts kk tpos) (Jz2 b1 b2 a1 a2) [z, TI, TO, i1, i2] z (fun i h => IsZip h z TI TO .none ∧ IsTupOf2 h TI (.ref i1) (.ref i2) ∧ (∃ x y, IsTupOf2 h TO x y) ∧ ItA b1 h i1 a1 i ∧ ItA b2 h i2 a2 i) where
  mem := by simp
  obj := fun i h st c hc => by
    obtain ⟨hz, hTI, ⟨x, y, hTO⟩, h1, h2⟩ := st
    have e' : c = z ∨ c = TI ∨ c = TO ∨ c = i1 ∨ c = i2 := by simpa using hc
    rcases e' with q | q | q | q | q
    · rw [q]; exact ⟨_, hz, fun v q => nomatch q⟩
    · rw [q]; exact ⟨_, hTI, fun v q => nomatch q⟩
    · rw [q]; exact ⟨_, hTO, fun v q => nomatch q⟩
    · rw [q]; exact h1.obj
    · rw [q]; exact h2.obj
  keep := fun i h h' st k => by
    obtain ⟨hz, hTI, ⟨x, y, hTO⟩, h1, h2⟩ := st
    exact ⟨k z (by simp) _ hz, k TI (by simp) _ hTI, ⟨x, y, k TO (by simp) _ hTO⟩, h1.at' fun o q => k i1 (by simp) o q, h2.at' fun o q => k i2 (by simp) o q⟩
  item := by
    intro X hP hw hK hc i pins s σ H E I hf st hg
    subst hP hw hK
    obtain ⟨hz, hTI, ⟨x0, y0, hTO⟩, h1, h2⟩ := st
    obtain ⟨xs, ys, x, y, hqx, hqy, hx, hy⟩ := hg
    obtain ⟨its, rv, p, _, _⟩ := Sq.get I hqx
    obtain ⟨its2, rv2, p2, _, _⟩ := Sq.get I hqy
    obtain ⟨u, hu, ru⟩ := rv.get hx
    obtain ⟨u2, hu2, ru2⟩ := rv2.get hy
    have hzl : z < s.heap.objs.size := Heap.lt_size hz
    have hh : X.A.in1.handled = none := I.ok.hd hc
    obtain ⟨⟨d1, d2, d3, d4, d5, d6, d7, d8, d9, d10⟩, dk⟩ := id D
    refine wpAny_pyNext_zipD2_item D.sep (drA hh b1 i1 a1 (dk i1 (by simp)).1.symm its.toArray) (drA hh b2 i2 a2 (dk i2 (by simp)).2.symm its2.toArray) hz hTI hTO ⟨h1, p⟩ ⟨h2, p2⟩
      (by have := (List.getElem?_eq_some_iff.mp hu).1; simpa using this) (by have := (List.getElem?_eq_some_iff.mp hu2).1; simpa using this) fun w1 w2 h' tk e1 e2 z' TO' h1' h2' hT hsz hk => ?_
    have ew1 : w1 = u := by simpa [hu] using e1.symm
    have ew2 : w2 = u2 := by simpa [hu2] using e2.symm
    subst ew1 ew2
    refine ⟨_, rfl, wpAny_letOwnedTupleGo_zip (s := { s with heap := h', toks := tk }) z' fun h'' z'' sb => ?_⟩
    have hT2 : h''.get? s.heap.objs.size = some { cls := .type "tuple", data := .seq #[w1, w2] } := (sb.2 _ (Nat.ne_of_gt hzl)).trans hT
    have new : ObjOk X.prog X.w (upd H s.heap.objs.size (.frz { cls := .type "tuple", data := .seq #[w1, w2] } (.tup [x, y]))) h'' s.heap.objs.size (.frz { cls := .type "tuple", data := .seq #[w1, w2] } (.tup [x, y])) :=
      ⟨hT2, by show 2 ≤ sizeLine; decide, [w1, w2], .cons ru (.cons ru2 .nil), ⟨_, hT2, rfl, _, rfl⟩⟩
    have I1 : Inv X pins σ (upd H s.heap.objs.size (.frz { cls := .type "tuple", data := .seq #[w1, w2] } (.tup [x, y]))) { s with heap := h'', toks := tk } :=
      I.turnedNew (t' := tk) (ch := [z, TI, TO, i1, i2]) (fun c o hb q => (sb.2 c (fun q' => hb (by simp [q']))).trans (hk c o (fun q' => hb (by simp [q'])) (fun q' => hb (by simp [q'])) (fun q' => hb (by simp [q'])) (fun q' => hb (by simp [q'])) q)) hf (Nat.le_refl _) new
    refine ⟨.ref s.heap.objs.size, _, I1, rfl, ⟨_, x, y, _, rfl, I.hok.fresh (Nat.le_refl _), rfl, rfl, fun l hl => by rw [hl.inj hqx]; exact hx, fun l hl => by rw [hl.inj hqy]; exact hy⟩, ⟨z'', ?_, ⟨w1, w2, ?_⟩, ?_, ?_⟩, fun c hcm => ?_⟩
    · exact (sb.2 _ d1.symm).trans (hk _ _ d1.symm d5 d6 d7 hTI)
    · exact (sb.2 _ d2.symm).trans TO'
    · exact h1'.1.at' fun o q => (sb.2 _ d3.symm).trans q
    · exact h2'.1.at' fun o q => (sb.2 _ d4.symm).trans q
    · have hlt : c < s.heap.objs.size := by
        have e' : c = z ∨ c = TI ∨ c = TO ∨ c = i1 ∨ c = i2 := by simpa using hcm
        rcases e' with q | q | q | q | q
        · rw [q]; exact hzl
        · rw [q]; exact Heap.lt_size hTI
        · rw [q]; exact Heap.lt_size hTO
        · rw [q]; exact h1.lt
        · rw [q]; exact h2.lt
      rw [upd_ne (Nat.ne_of_lt hlt)]
      exact (hf c hcm).1
  done := by
    intro X hP hw hK hc i pins s σ H E I hf st hg
    subst hP hw hK
    obtain ⟨hz, hTI, ⟨x0, y0, hTO⟩, h1, h2⟩ := st
    obtain ⟨xs, ys, hqx, hqy, hl1, hl2, hend⟩ := hg
    obtain ⟨its, rv, p, _, _⟩ := Sq.get I hqx
    obtain ⟨its2, rv2, p2, _, _⟩ := Sq.get I hqy
    have l1 := rv.length
    have l2 := rv2.length
    have hh : X.A.in1.handled = none := I.ok.hd hc
    obtain ⟨⟨d1, d2, d3, d4, d5, d6, d7, d8, d9, d10⟩, dk⟩ := id D
    exact wpAny_pyNext_zipD2_end D.sep (drA hh b1 i1 a1 (dk i1 (by simp)).1.symm its.toArray) (drA hh b2 i2 a2 (dk i2 (by simp)).2.symm its2.toArray) hz hTI hTO ⟨h1, p⟩ ⟨h2, p2⟩
      (by simp; omega) (by simp; omega) (by simp; omega) fun h' tk hk => ⟨rfl, I.turnedL (t' := tk) (ch := [z, TI, TO, i1, i2]) (fun c o hb q =>
      hk c o (fun q' => hb (by simp [q'])) (fun q' => hb (by simp [q'])) (fun q' => hb (by simp [q'])) (fun q' => hb (by simp [q'])) q) hf⟩
  self := fun A i s Q E st h => wpAny_pyIter_zip st.1 h
def iZ2 (ta : TA) : TI := fun σ H R => ta σ H fun vs H1 => ∃ b1 b2 a1 a2 xs ys, vs = [.ref a1, .ref a2] ∧ Sq b1 H1 a1 xs ∧ Sq b2 H1 a2 ys ∧ R (Jz2 b1 b2 a1 a2) H1
theorem pi_z2 {X : Cx} {e e2 : Expr} {ta : TA} {p pos tpos : Pos} {elts : List Expr} {kk : Nat} (hg : Gl X "zip") (hm : X.mg "zip" = none) (ha : PA X [e, e2] ta)
    (hs : starEach [e, e2] X.env = (false, eval e X.env) :: starEach [e2] X.env := by rfl) (hpl : (backTo pos (starEach [e2] X.env)).any (·.1) = false := by rfl) :
    PI X (.Tuple elts kk tpos) (.Call (.Name "zip" p) [e, e2] [] pos) (iZ2 ta) := by
  refine ⟨fun pins s σ H R I h => ?_⟩
  refine Call_ (ld_blt I hg hm PyProof.Rows.boot_zip (PyProof.Rows.callWith_type1 (thn (ha.run pos pins s σ H _ I h) fun us s1 ⟨vs, H1, I1, r1, q1⟩ => ?_) hs hpl))
  obtain ⟨b1, b2, a1, a2, xs, ys, ex, hqx, hqy, q⟩ := q1
  subst ex
  cases r1 with
  | cons r rr =>
    cases rr with
    | cons r' rr =>
      cases rr
      cases r
      cases r'
      obtain ⟨its, rv, p1, _, l1⟩ := Sq.get I1 hqx
      obtain ⟨its2, rv2, p2, _, l2⟩ := Sq.get I1 hqy
      refine zip_begins2 (begA b1 a1 its.toArray) (begA b2 a2 its2.toArray) p1 p2 fun h' hz hTI hTO h1 h2 hsz hk => wpAny_pyIter_zip hz ?_
      have I2 : Inv X pins σ H1 { s1 with heap := h' } := I1.kept (t' := s1.toks) hk
      refine ⟨s1.heap.objs.size + 4, [s1.heap.objs.size + 4, s1.heap.objs.size + 2, s1.heap.objs.size + 3, s1.heap.objs.size, s1.heap.objs.size + 1], _, _, H1, rfl, I2, turn_z2 (b1 := b1) (b2 := b2) (a1 := a1) (a2 := a2) (sep2_of l1 l2), ⟨hz, hTI, ⟨_, _, hTO⟩, itA_new b1 h1, itA_new b2 h2⟩, fun c hcm => ?_, q⟩
      have e' : c = s1.heap.objs.size + 4 ∨ c = s1.heap.objs.size + 2 ∨ c = s1.heap.objs.size + 3 ∨ c = s1.heap.objs.size ∨ c = s1.heap.objs.size + 1 := by simpa using hcm
      have hle : s1.heap.objs.size ≤ c := by rcases e' with z | z | z | z | z <;> (rw [z]; first | exact Nat.le_refl _ | exact Nat.le_add_right _ _)
      exact I1.fpOk hle (I1.hok.fresh hle)

/-! ### enumerate -/
def Je (b : Bool) (a : Addr) : It :=
  ⟨fun i H => ∃ (xs : List V) (x : V), Sq b H a xs ∧ xs[i]? = some x, fun i H v H' => ∃ T x o, v = .ref T ∧ H T = none ∧ o.dict = none ∧ H' = upd H T (.frz o (.tup [.int (i : Nat), x])) ∧ ∀ xs, Sq b H a xs → xs[i]? = some x, fun i H => ∃ xs : List V, Sq b H a xs ∧ xs.length = i⟩
theorem turn_e {P : Program} {w : World} {K : PySem.W.Frag} {elts : List Expr} {kk : Nat} {tpos : Pos} {b : Bool} (a e it : Addr) (he1 : e ≠ it) (he2 : e ≠ a) (he3 : a ≠ it) :
    Turn P w K (.Tuple elts kk tpos) (Je b a) [e, it] e (fun i h => (∃ old, IsEnum h e it ((i : Nat) : Int) old) ∧ ItA b h it a i) where
  mem := by simp
  obj := fun i h st c hc => by
    obtain ⟨⟨old, he⟩, hi⟩ := st
    have e' : c = e ∨ c = it := by simpa using hc
    rcases e' with z | z
    · rw [z]; exact ⟨_, he, fun v q => nomatch q⟩
    · rw [z]; exact hi.obj
  keep := fun i h h' st k => let ⟨⟨old, he⟩, hi⟩ := st; ⟨⟨old, k e (by simp) _ he⟩, hi.at' fun o q => k it (by simp) o q⟩
  item := by
    intro X hP hw hK hc i pins s σ H E I hf st hg
    subst hP hw hK
    obtain ⟨⟨old, he⟩, hit⟩ := st
    obtain ⟨xs, x, hq, hx⟩ := hg
    obtain ⟨its, rv, p, _, hal⟩ := Sq.get I hq
    obtain ⟨u, hu, ru⟩ := rv.get hx
    have hel : e < s.heap.objs.size := Heap.lt_size he
    have hil : it < s.heap.objs.size := hit.lt
    have hh : X.A.in1.handled = none := I.ok.hd hc
    refine wpAny_pyNext_enum_itemC (drA hh b it a he3 its.toArray) he ⟨hit, p⟩ (by have := (List.getElem?_eq_some_iff.mp hu).1; simpa using this) he1 (by simp [he1, he2]) fun z h' tk ez ho hit' hT hsz hk => ?_
    have ez1 : z = u := by simpa [hu] using ez.symm
    subst ez1
    refine ⟨_, rfl, wpAny_letOwnedTupleGo_enum (s := { s with heap := h', toks := tk + 1 }) ho fun h'' he' sb => ?_⟩
    have hT2 : h''.get? s.heap.objs.size = some { cls := .type "tuple", data := .seq #[.int i tk, z] } := (sb.2 _ (Nat.ne_of_gt hel)).trans hT
    have new : ObjOk X.prog X.w (upd H s.heap.objs.size (.frz { cls := .type "tuple", data := .seq #[.int i tk, z] } (.tup [.int (i : Nat), x]))) h'' s.heap.objs.size (.frz { cls := .type "tuple", data := .seq #[.int i tk, z] } (.tup [.int (i : Nat), x])) :=
      ⟨hT2, by show 2 ≤ sizeLine; decide, [.int i tk, z], .cons ⟨_, rfl⟩ (.cons ru .nil), ⟨_, hT2, rfl, _, rfl⟩⟩
    have I1 : Inv X pins σ (upd H s.heap.objs.size (.frz { cls := .type "tuple", data := .seq #[.int i tk, z] } (.tup [.int (i : Nat), x]))) { s with heap := h'', toks := tk + 1 } :=
      I.turnedNew (ch := [e, it]) (fun c ob hb q => (sb.2 c (fun z => hb (by simp [z]))).trans (hk c ob (fun z => hb (by simp [z])) (fun z => hb (by simp [z])) q)) hf (Nat.le_refl _) new
    refine ⟨.ref s.heap.objs.size, _, I1, rfl, ⟨_, x, _, rfl, I.hok.fresh (Nat.le_refl _), rfl, rfl, fun ys hy => by rw [hy.inj hq]; exact hx⟩, ⟨⟨z, ?_⟩, hit'.1.at' fun o q => (sb.2 it (Ne.symm he1)).trans q⟩, fun c hb => ?_⟩
    · have e1 : ((i + 1 : Nat) : Int) = (i : Int) + 1 := by omega
      rw [e1]; exact he'
    · have hb' : c < s.heap.objs.size := by
        have e' : c = e ∨ c = it := by simpa using hb
        rcases e' with z | z
        · rw [z]; exact hel
        · rw [z]; exact hil
      rw [upd_ne (Nat.ne_of_lt hb')]
      exact (hf c hb).1
  done := by
    intro X hP hw hK hc i pins s σ H E I hf st hg
    subst hP hw hK
    obtain ⟨⟨old, he⟩, hit⟩ := st
    obtain ⟨xs, hq, hx⟩ := hg
    obtain ⟨its, rv, p, _, hal⟩ := Sq.get I hq
    have hl := rv.length
    have hh : X.A.in1.handled = none := I.ok.hd hc
    have hi : i = its.toArray.size := by simp; omega
    subst hi
    exact wpAny_pyNext_enum_endD (drA hh b it a he3 its.toArray) he ⟨hit, p⟩ fun h' hx => ⟨rfl, I.turnedL (t' := s.toks) (ch := [e, it]) (fun c o hb q => hx c o (fun z => hb (by simp [z])) q) hf⟩
  self := fun A i s Q E st h => let ⟨⟨_, he⟩, _⟩ := st; wpAny_pyIter_enum he h
theorem meets_enum1 {v : Value} {o : Obj} {H : Heap → Prop} (B : Begins v o H) :
    Meets (Builtin.«enumerate.__new__» ⟨[.type "enumerate", v], []⟩) (fun _ R s => H s.heap ∧
      R (.ok (.ret (.ref (s.heap.push o).objs.size))) { s with heap := (s.heap.push o).push { cls := .type "enumerate", data := .fields #[.none, .bool false, .ref s.heap.objs.size, rawInt 0, .none, .none] } }) :=
  .of_wp fun prog w A R s h => by
    obtain ⟨hp, g, d, tk, os⟩ := s; obtain ⟨h1, h⟩ := h
    have hsub := sub_enumerate
    have q1 : ∀ {A' : Around} {E : Value → Shared → Prop} {Q : Value → Shared → Prop}, Q (.ref hp.objs.size) ⟨hp.push o, g, d, tk, os⟩ → wpAny (model prog w) A' (pyIter v) Q E ⟨hp, g, d, tk, os⟩ :=
      fun q => B.iter prog w _ _ ⟨hp, g, d, tk, os⟩ _ h1 q
    wp_walk using q1
    refine wpAny_stack_any fun st => wpAny_pure ?_
    split
    · rename_i c _ _ _ _ _
      cases (c == Value.type "enumerate")
      · wp_walk using q1
        exact ⟨_, rfl, h⟩
      · wp_walk using q1
        exact ⟨_, rfl, h⟩
    · wp_walk using q1
      exact ⟨_, rfl, h⟩
theorem enum1_begins {prog : Program} {w : World} {A : Around} {E : Value → Shared → Prop} {s : Shared} {v : Value} {o : Obj} {H : Heap → Prop} {Q : Value → Shared → Prop} (B : Begins v o H) (h1 : H s.heap)
    (h : ∀ h', IsEnum h' (s.heap.objs.size + 1) s.heap.objs.size 0 .none → h'.get? s.heap.objs.size = some o → h'.objs.size = s.heap.objs.size + 2 →
      (∀ b o, s.heap.get? b = some o → h'.get? b = some o) → Q (.ref (s.heap.objs.size + 1)) { s with heap := h' }) :
    wpAny (model prog w) A (call (.type "enumerate") [v]) Q E s := by
  refine callType_new F.called_enumerate (by decide) (F.typeCall_enumerate_1 _) (F.newCall_enumerate_1 _) (fun obj => F.args_object_init_2 obj _) F.entry_enumerate_new
    (meets_enum1 B) ⟨h1, ?_⟩
  have hz : (s.heap.push o).objs.size = s.heap.objs.size + 1 := Heap.size_push ..
  show _ ∧ _
  rw [hz]
  have he : IsEnum ((s.heap.push o).push { cls := .type "enumerate", data := .fields #[.none, .bool false, .ref s.heap.objs.size, rawInt 0, .none, .none] }) (s.heap.objs.size + 1) s.heap.objs.size 0 .none := by
    have := Heap.get?_push_size (s.heap.push o) (o := { cls := .type "enumerate", data := .fields #[.none, .bool false, .ref s.heap.objs.size, rawInt 0, .none, .none] }) rfl
    rw [hz] at this; exact this
  have ho : o.isFreed = false := B.free
  refine ⟨⟨_, he, rfl⟩, h _ he (Heap.get?_push_of_some _ (Heap.get?_push_size _ ho)) (by rw [Heap.size_push, hz]) fun b o x => Heap.get?_push_of_some _ (Heap.get?_push_of_some _ x)⟩
def iE (ta : TA) : TI := fun σ H R => ta σ H fun vs H1 => ∃ b a xs, vs = [.ref a] ∧ Sq b H1 a xs ∧ R (Je b a) H1
theorem pi_e {X : Cx} {e : Expr} {ta : TA} {p pos tpos : Pos} {elts : List Expr} {kk : Nat} (hg : Gl X "enumerate") (hm : X.mg "enumerate" = none) (ha : PA X [e] ta) (hs : starEach [e] X.env = [(false, eval e X.env)] := by rfl) :
    PI X (.Tuple elts kk tpos) (.Call (.Name "enumerate" p) [e] [] pos) (iE ta) := by
  refine ⟨fun pins s σ H R I h => ?_⟩
  refine Call_ (ld_blt I hg hm boot_enumerate (PyProof.Rows.callWith_type1 (thn (ha.run pos pins s σ H _ I h) fun us s1 ⟨vs, H1, I1, r1, q1⟩ => ?_) hs rfl))
  obtain ⟨b, a, xs, ex, hq, q⟩ := q1
  subst ex
  cases r1 with
  | cons r rr =>
    cases rr
    cases r
    obtain ⟨its, rv, p', _, hal⟩ := Sq.get I1 hq
    refine enum1_begins (begA b a its.toArray) p' fun h' he hit hsz hk => wpAny_pyIter_enum he ?_
    have I2 : Inv X pins σ H1 { s1 with heap := h' } := I1.kept (t' := s1.toks) hk
    refine ⟨s1.heap.objs.size + 1, [s1.heap.objs.size + 1, s1.heap.objs.size], _, _, H1, rfl, I2, turn_e (b := b) a (s1.heap.objs.size + 1) s1.heap.objs.size (Nat.succ_ne_self _) (Nat.ne_of_gt (Nat.lt_succ_of_lt hal)) (Nat.ne_of_lt hal), ⟨⟨.none, he⟩, itA_new b hit⟩, fun c hb => ?_, q⟩
    have e' : c = s1.heap.objs.size + 1 ∨ c = s1.heap.objs.size := by simpa using hb
    have hle : s1.heap.objs.size ≤ c := by rcases e' with z | z <;> (rw [z]; first | exact Nat.le_refl _ | exact Nat.le_add_right _ _)
    exact I1.fpOk hle (I1.hok.fresh hle)
end DL

namespace DL
open PySem PySem.Spec PyProof.Rows L2

/-! ### what is walked -/
/-- a step that keeps all but one's own things (bz: all) -/
def Stp (bz : Bool) (c : Ct) (H H' : Hp) : Prop := ∀ b o, (bz = true ∨ ¬ c.B b ∨ ¬ IsMut o) → H b = some o → H' b = some o
theorem Same.stp {bz : Bool} {c : Ct} {H H' : Hp} (s : Same H H') : Stp bz c H H' := fun b o _ e => s b o e
theorem Stp.trans {bz : Bool} {c : Ct} {H H1 H2 : Hp} (s : Stp bz c H H1) (t : Stp bz c H1 H2) : Stp bz c H H2 := fun b o h e => t b o h (s b o h e)
theorem Stp.db2 {bz : Bool} {c : Ct} {H H' : Hp} {v : V} {d : PyData} {B' : Addr → Prop} (s : Stp bz c H H') (h : Db c.B H v d) (k1 : ∀ b, c.B b → B' b) (k2 : ∀ b, B' b → c.B b ∨ H b = none) : Db B' H' v d := (h.banNew k2).mv fun b o q e => s b o (.inr (q.imp (fun n z => n (k1 b z)) id)) e
theorem Stp.db {bz : Bool} {c : Ct} {H H' : Hp} {v : V} {d : PyData} (s : Stp bz c H H') (h : Db c.B H v d) : Db c.B H' v d := h.mv fun b o q e => s b o (.inr q) e
theorem Stp.dbAll {bz : Bool} {c : Ct} {H H' : Hp} {v : List V} {d : List PyData} (s : Stp bz c H H') (h : DbAll c.B H v d) : DbAll c.B H' v d := Db.mvAll (fun b o q e => s b o (.inr q) e) _ _ h
def Yl (bz : Bool) (c : Ct) (J : It) (H1 : Hp) (items : List PyData) : Prop := ∃ (G : Hp → Prop) (Y : Nat → Hp → V → Hp → Prop), items.length ≤ sizeLine ∧ Walk J items.length G Y ∧ (∀ H, Stp bz c H1 H → G H) ∧
  ∀ i H x H', i < items.length → Stp bz c H1 H → Y i H x H' → Same H H' ∧ ∃ d, items[i]? = some d ∧ ∀ B' : Addr → Prop, (∀ b, c.B b → B' b) → (∀ b, B' b → c.B b ∨ H1 b = none) → Db B' H' x d
def tEi (bz : Bool) (Γ : DEnv) (items : List PyData) : TI := fun σ H R => ∃ c : Ct, REnv c σ H Γ ∧ ∀ J H1, Same H H1 → Yl bz c J H1 items → R J H1
abbrev Ei (bz : Bool) (X : Cx) (tg : Expr) (Γ : DEnv) (e : Expr) (items : List PyData) : Prop := PI X tg e (tEi bz Γ items)
/-- what may be taken out of a frozen read -/
def fl (bz : Bool) (ds : List PyData) : Prop := bz = true → flatAll ds = true
theorem fl_f {ds : List PyData} : fl false ds := fun h => nomatch h
theorem fl_db {bz : Bool} {c : Ct} {H : Hp} {vs : List V} {ds : List PyData} (h : DbAll (bn bz c) H vs ds) (f : fl bz ds) : DbAll c.B H vs ds := by
  cases bz
  · exact h
  · exact Db.flatAll _ _ h (f rfl)
def enumD (ds : List PyData) : List PyData := ds.zipIdx.map fun p => .tuple [.int (p.2 : Nat), p.1]
def zipD (ds es : List PyData) : List PyData := (ds.zip es).map fun p => .tuple [p.1, p.2]
section
variable {X : Cx} {bz : Bool} {Γ : DEnv} {a b e e2 tg : Expr} {pos p : Pos} {d d1 d2 : PyData} {ds ds2 : List PyData}
theorem stp_lst {c : Ct} {H : Hp} {q : Addr} {xs : List V} (hb : ¬ bn bz c q) (e : IsL H q xs) {H' : Hp} (s : Stp bz c H H') : IsL H' q xs := by
  refine ⟨e.1, s _ _ ?_ e.2⟩
  cases bz
  · exact .inr (.inl hb)
  · exact .inl rfl
theorem stp_tup {c : Ct} {H : Hp} {q : Addr} {xs : List V} (e : IsT H q xs) {H' : Hp} (s : Stp bz c H H') : IsT H' q xs := e.mv fun o m e => s _ _ (.inr (.inr m)) e
/-- an object that is walked: a list or a tuple -/
theorem sq_of {c : Ct} {H : Hp} {v : V} (h : Db (bn bz c) H v d) (hs : isSeq d ds) (f : fl bz ds) : ∃ (t : Bool) (q : Addr) (vs : List V), v = .ref q ∧ vs.length ≤ sizeLine ∧ Sq t H q vs ∧ (∀ H', Stp bz c H H' → Sq t H' q vs) ∧ DbAll c.B H vs ds := by
  rcases hs with rfl | rfl
  · cases h with
    | lst nb e h => exact ⟨false, _, _, rfl, e.1, e, fun H' s => stp_lst nb e s, fl_db h f⟩
  · cases h with
    | tup e h => exact ⟨true, _, _, rfl, e.1, e, fun H' s => stp_tup e s, fl_db h f⟩
theorem ei_seq (ha : Ev bz X Γ e d) (hs : isSeq d ds) (f : fl bz ds) : Ei bz X tg Γ e ds := by
  rcases hs with rfl | rfl
  · refine PI_mono (pi_list ha) fun σ H R' ⟨c, R, k⟩ => ⟨c, R, fun v H1 s1 h1 => ?_⟩
    cases h1 with
    | lst nb e h =>
      refine ⟨_, rfl, ⟨_, e.sq⟩, k _ H1 s1 ⟨_, _, h.length ▸ e.1, h.length ▸ walk_list, fun H2 s2 => (stp_lst nb e s2).sq, fun i H2 x H' hi s2 y => ?_⟩⟩
      obtain ⟨rfl, y⟩ := y
      obtain ⟨d, hd, hx⟩ := (fl_db h f).getV y
      exact ⟨Same.refl _, d, hd, fun B' k1 k2 => s2.db2 hx k1 k2⟩
  · refine PI_mono (pi_tup ha) fun σ H R' ⟨c, R, k⟩ => ⟨c, R, fun v H1 s1 h1 => ?_⟩
    cases h1 with
    | tup e h =>
      refine ⟨_, rfl, ⟨_, e.sq⟩, k _ H1 s1 ⟨_, _, h.length ▸ e.1, h.length ▸ walk_tup, fun H2 s2 => (stp_tup e s2).sq, fun i H2 x H' hi s2 y => ?_⟩⟩
      obtain ⟨rfl, y⟩ := y
      obtain ⟨d, hd, hx⟩ := (fl_db h f).getV y
      exact ⟨Same.refl _, d, hd, fun B' k1 k2 => s2.db2 hx k1 k2⟩
def rangeD (lo : Int) (n : Nat) : List PyData := (List.range n).map fun i => .int (lo + (i : Nat))
theorem rangeD_len (lo : Int) (n : Nat) : (rangeD lo n).length = n := by simp [rangeD]
theorem yl_range {c : Ct} {H1 : Hp} (lo : Int) (n : Nat) (hn : n ≤ 1000000) : Yl bz c (Itr lo n) H1 (rangeD lo n) := by
  refine ⟨_, _, by rw [rangeD_len]; exact sl_of hn, by rw [rangeD_len]; exact walk_range, fun _ _ => trivial, fun i H2 x H' hi _ y => ?_⟩
  obtain ⟨rfl, rfl⟩ := y
  rw [rangeD_len] at hi
  exact ⟨Same.refl _, .int (lo + (i : Nat)), by simp [rangeD, hi], fun _ _ _ => .int _⟩
theorem ei_range1 {n : Int} (hm : X.mg "range" = none) (ha : Ev bz X Γ e (.int n)) (hn : -1000000 ≤ n ∧ n ≤ 1000000) (hg : Gl X "range" := by rfl) (hs : starEach [e] X.env = (false, eval e X.env) :: starEach [] X.env := by rfl) : Ei bz X tg Γ (.Call (.Name "range" p) [e] [] pos) (rangeD 0 n.toNat) :=
  PI_mono (pi_range1 hg hm (pa_cons ha pa_nil hs) hs) fun σ H R' ⟨c, R, k⟩ => ⟨c, R, fun v H1 s1 h1 => by
    cases h1
    exact ⟨n, rfl, by omega, by omega, k _ H1 s1 (yl_range 0 n.toNat (by omega))⟩⟩
theorem ei_range2 {m n : Int} (hm : X.mg "range" = none) (ha : Ev bz X Γ e (.int m)) (hb : Ev bz X Γ e2 (.int n)) (hn : -400000 ≤ n ∧ n ≤ 400000 ∧ -400000 ≤ m ∧ m ≤ 400000) (hg : Gl X "range" := by rfl)
    (hs : starEach [e, e2] X.env = (false, eval e X.env) :: starEach [e2] X.env := by rfl) (hs2 : starEach [e2] X.env = (false, eval e2 X.env) :: starEach [] X.env := by rfl) : Ei bz X tg Γ (.Call (.Name "range" p) [e, e2] [] pos) (rangeD m (n - m).toNat) :=
  PI_mono (pi_range2 hg hm (pa_cons ha (pa_cons hb pa_nil hs2) hs) (by rw [hs, hs2]; rfl) hs2) fun σ H R' ⟨c, R, k⟩ => ⟨c, R, fun v H1 s1 h1 => by
    cases h1
    refine ⟨c, R.same s1, fun v H2 s2 h2 => ?_⟩
    cases h2
    exact ⟨m, n, rfl, ⟨by omega, by omega, by omega, by omega⟩, k _ H2 (s1.trans s2) (yl_range m (n - m).toNat (by omega))⟩⟩
theorem zipD_len : (zipD ds ds2).length = min ds.length ds2.length := by simp [zipD]
theorem zipD_at {i : Nat} {x y : PyData} (h : ds[i]? = some x) (h2 : ds2[i]? = some y) : (zipD ds ds2)[i]? = some (.tuple [x, y]) := by
  have q : (ds.zip ds2)[i]? = some (x, y) := List.getElem?_zip_eq_some.mpr ⟨h, h2⟩
  simp [zipD, q]
/-- a new pair, told as the object that it is -/
def YPr (xs ys : Nat → Option V) : Nat → Hp → V → Hp → Prop := fun i H v H' => ∃ T x y o, v = .ref T ∧ H T = none ∧ o.dict = none ∧ H' = upd H T (.frz o (.tup [x, y])) ∧ xs i = some x ∧ ys i = some y
theorem walk_z2 {b1 b2 : Bool} {a1 a2 : Addr} {xs ys : List V} : Walk (Jz2 b1 b2 a1 a2) (min xs.length ys.length) (fun H => Sq b1 H a1 xs ∧ Sq b2 H a2 ys) (YPr (fun i => xs[i]?) (fun i => ys[i]?)) := by
  refine ⟨fun i _ hi q => ?_, fun _ q => ⟨xs, ys, q.1, q.2, by omega, by omega, by omega⟩, fun i H v H' _ q y => ?_⟩
  · have h1 : i < xs.length := by omega
    have h2 : i < ys.length := by omega
    exact ⟨xs, ys, xs[i], ys[i], q.1, q.2, by simp [h1], by simp [h2]⟩
  · obtain ⟨T, x, z, o, h1, h2, h0, h3, h4, h5⟩ := y
    exact ⟨T, x, z, o, h1, h2, h0, h3, h4 xs q.1, h5 ys q.2⟩
theorem walk_e {b : Bool} {a : Addr} {xs : List V} : Walk (Je b a) xs.length (fun H => Sq b H a xs) (YPr (fun i => some (.int (i : Nat))) (fun i => xs[i]?)) := by
  refine ⟨fun i _ hi q => ⟨xs, xs[i], q, by simp [hi]⟩, fun _ q => ⟨xs, q, rfl⟩, fun i H v H' _ q y => ?_⟩
  obtain ⟨T, x, o, h1, h2, h0, h3, h4⟩ := y
  exact ⟨T, .int (i : Nat), x, o, h1, h2, h0, h3, rfl, h4 xs q⟩
theorem ei_zip {elts : List Expr} {kk : Nat} {tpos : Pos} (hm : X.mg "zip" = none) (ha : Ev bz X Γ e d1) (hb : Ev bz X Γ e2 d2) (h1 : isSeq d1 ds) (h2 : isSeq d2 ds2) (f1 : fl bz ds) (f2 : fl bz ds2) (hg : Gl X "zip" := by rfl)
    (hs : starEach [e, e2] X.env = (false, eval e X.env) :: starEach [e2] X.env := by rfl) (hs2 : starEach [e2] X.env = (false, eval e2 X.env) :: starEach [] X.env := by rfl) (hpl : (backTo pos (starEach [e2] X.env)).any (·.1) = false := by rfl) :
    Ei bz X (.Tuple elts kk tpos) Γ (.Call (.Name "zip" p) [e, e2] [] pos) (zipD ds ds2) :=
  PI_mono (pi_z2 hg hm (pa_cons ha (pa_cons hb pa_nil hs2) hs) hs hpl) fun σ H R' ⟨c, R, k⟩ => ⟨c, R, fun v H1 s1 q1 => ⟨c, R.same s1, fun u H2 s2 q2 => by
    obtain ⟨t1, a1, xs, rfl, z1, e1, st1, g1⟩ := sq_of (q1.same s2) h1 f1
    obtain ⟨t2, a2, ys, rfl, z2, e2, st2, g2⟩ := sq_of q2 h2 f2
    refine ⟨t1, t2, a1, a2, xs, ys, rfl, e1, e2, k _ H2 (s1.trans s2) ⟨_, _, by rw [zipD_len, ← g1.length]; exact Nat.le_trans (Nat.min_le_left _ _) z1, zipD_len ▸ g1.length ▸ g2.length ▸ walk_z2 (xs := xs) (ys := ys), fun H3 s3 => And.intro (st1 H3 s3) (st2 H3 s3), fun i H3 x H' hi s3 y => ?_⟩⟩
    obtain ⟨T, x, z, o, rfl, hT, ho, rfl, w1, w2⟩ := y
    obtain ⟨d, hd, hx⟩ := g1.getV w1
    obtain ⟨d', hd', hx'⟩ := g2.getV w2
    exact ⟨same_new hT _, _, zipD_at hd hd', fun B' k1 k2 => .tup (isT_new ho (by show 2 ≤ sizeLine; decide)) (.cons ((s3.db2 hx k1 k2).same (same_new hT _)) (.cons ((s3.db2 hx' k1 k2).same (same_new hT _)) .nil))⟩⟩⟩
theorem enumD_len : (enumD ds).length = ds.length := by simp [enumD]
theorem enumD_at {i : Nat} {x : PyData} (h : ds[i]? = some x) : (enumD ds)[i]? = some (.tuple [.int (i : Nat), x]) := by
  simp [enumD, h]
theorem ei_enum {elts : List Expr} {kk : Nat} {tpos : Pos} (hm : X.mg "enumerate" = none) (ha : Ev bz X Γ e d1) (h1 : isSeq d1 ds) (f1 : fl bz ds) (hg : Gl X "enumerate" := by rfl)
    (hs : starEach [e] X.env = (false, eval e X.env) :: starEach [] X.env := by rfl) : Ei bz X (.Tuple elts kk tpos) Γ (.Call (.Name "enumerate" p) [e] [] pos) (enumD ds) :=
  PI_mono (pi_e hg hm (pa_cons ha pa_nil hs) (by rw [hs]; rfl)) fun σ H R' ⟨c, R, k⟩ => ⟨c, R, fun v H1 s1 q1 => by
    obtain ⟨t1, a1, xs, rfl, z1, e1, st1, g1⟩ := sq_of q1 h1 f1
    refine ⟨t1, a1, xs, rfl, e1, k _ H1 s1 ⟨_, _, by rw [enumD_len, ← g1.length]; exact z1, by rw [enumD_len, ← g1.length]; exact walk_e, fun H3 s3 => st1 H3 s3, fun i H3 x H' hi s3 y => ?_⟩⟩
    obtain ⟨T, x, z, o, rfl, hT, ho, rfl, w1, w2⟩ := y
    cases w1
    obtain ⟨d, hd, hx⟩ := g1.getV w2
    exact ⟨same_new hT _, _, enumD_at hd, fun B' k1 k2 => .tup (isT_new ho (by show 2 ≤ sizeLine; decide)) (.cons (.int _) (.cons ((s3.db2 hx k1 k2).same (same_new hT _)) .nil))⟩⟩
end

/-! ### targets -/
def wipG (Γ : DEnv) : List Nat → DEnv
  | [] => Γ
  | v :: vs => (wipG Γ vs).set v .no
theorem REnv.setNo {c : Ct} {σ : L2.St} {H : Hp} {Γ : DEnv} (R : REnv c σ H Γ) (i : Nat) : REnv c (σ.set i none) H (Γ.set i .no) where
  len := by simp [R.len]
  val := fun j d e => by
    by_cases h : i = j
    · subst h
      by_cases hl : i < Γ.length
      · rw [List.getElem?_set_self hl] at e; cases e
      · rw [List.getElem?_eq_none (by simpa using hl)] at e; cases e
    · rw [List.getElem?_set_ne h] at e ⊢
      exact R.val j d e
  own := fun j d e => by
    by_cases h : i = j
    · subst h
      by_cases hl : i < Γ.length
      · rw [List.getElem?_set_self hl] at e; cases e
      · rw [List.getElem?_eq_none (by simpa using hl)] at e; cases e
    · rw [List.getElem?_set_ne h] at e ⊢
      exact R.own j d e
  sep := fun j k d e a hjk h1 h2 h3 h4 => by
    have nj : i ≠ j := fun q => by
      subst q
      by_cases hl : i < Γ.length
      · rw [List.getElem?_set_self hl] at h1; cases h1
      · rw [List.getElem?_eq_none (by simpa using hl)] at h1; cases h1
    have nk : i ≠ k := fun q => by
      subst q
      by_cases hl : i < Γ.length
      · rw [List.getElem?_set_self hl] at h2; cases h2
      · rw [List.getElem?_eq_none (by simpa using hl)] at h2; cases h2
    rw [List.getElem?_set_ne nj] at h1 h3
    rw [List.getElem?_set_ne nk] at h2 h4
    exact R.sep j k d e a hjk h1 h2 h3 h4
  muta := R.muta
  sub := R.sub
  keep := R.keep
  urn := fun j m e => by
    have nj : i ≠ j := fun q => by
      subst q
      by_cases hl : i < Γ.length
      · rw [List.getElem?_set_self hl] at e; cases e
      · rw [List.getElem?_eq_none (by simpa using hl)] at e; cases e
    rw [List.getElem?_set_ne nj] at e ⊢
    exact R.urn j m e
  raw := fun j v S e => by
    have nj : i ≠ j := fun q => by
      subst q
      by_cases hl : i < Γ.length
      · rw [List.getElem?_set_self hl] at e; cases e
      · rw [List.getElem?_eq_none (by simpa using hl)] at e; cases e
    rw [List.getElem?_set_ne nj] at e ⊢
    exact R.raw j v S e
  usep := fun j k m d a h1 h2 h3 h4 => by
    have nj : i ≠ j := fun q => by
      subst q
      by_cases hl : i < Γ.length
      · rw [List.getElem?_set_self hl] at h1; cases h1
      · rw [List.getElem?_eq_none (by simpa using hl)] at h1; cases h1
    have nk : i ≠ k := fun q => by
      subst q
      by_cases hl : i < Γ.length
      · rw [List.getElem?_set_self hl] at h2; cases h2
      · rw [List.getElem?_eq_none (by simpa using hl)] at h2; cases h2
    rw [List.getElem?_set_ne nj] at h1 h3
    rw [List.getElem?_set_ne nk] at h2
    exact R.usep j k m d a h1 h2 h3 h4
theorem REnv.wipe {c : Ct} {σ : L2.St} {H : Hp} {Γ : DEnv} (R : REnv c σ H Γ) : ∀ vs : List Nat, REnv c (L2.wipe σ vs) H (wipG Γ vs)
  | [] => R
  | v :: vs => (REnv.wipe R vs).setNo v
theorem REnv.setVal {c : Ct} {σ : L2.St} {H : Hp} {Γ : DEnv} (R : REnv c σ H Γ) (i : Nat) {v : V} {d : PyData} (h : Db c.B H v d) : REnv c (σ.set i (some v)) H (Γ.set i (.val d)) where
  len := by simp [R.len]
  val := fun j d' e => by
    by_cases hij : i = j
    · subst hij
      by_cases hl : i < Γ.length
      · rw [List.getElem?_set_self hl] at e; cases e
        exact ⟨v, List.getElem?_set_self (by rw [R.len]; exact hl), h⟩
      · rw [List.getElem?_eq_none (by simpa using hl)] at e; cases e
    · rw [List.getElem?_set_ne hij] at e ⊢
      exact R.val j d' e
  own := fun j d' e => by
    by_cases hij : i = j
    · subst hij
      by_cases hl : i < Γ.length
      · rw [List.getElem?_set_self hl] at e; cases e
      · rw [List.getElem?_eq_none (by simpa using hl)] at e; cases e
    · rw [List.getElem?_set_ne hij] at e ⊢
      exact R.own j d' e
  sep := fun j k d1 e a hjk h1 h2 h3 h4 => by
    have nj : i ≠ j := fun q => by
      subst q
      by_cases hl : i < Γ.length
      · rw [List.getElem?_set_self hl] at h1; cases h1
      · rw [List.getElem?_eq_none (by simpa using hl)] at h1; cases h1
    have nk : i ≠ k := fun q => by
      subst q
      by_cases hl : i < Γ.length
      · rw [List.getElem?_set_self hl] at h2; cases h2
      · rw [List.getElem?_eq_none (by simpa using hl)] at h2; cases h2
    rw [List.getElem?_set_ne nj] at h1 h3
    rw [List.getElem?_set_ne nk] at h2 h4
    exact R.sep j k d1 e a hjk h1 h2 h3 h4
  muta := R.muta
  sub := R.sub
  keep := R.keep
  urn := fun j m e => by
    have nj : i ≠ j := fun q => by
      subst q
      by_cases hl : i < Γ.length
      · rw [List.getElem?_set_self hl] at e; cases e
      · rw [List.getElem?_eq_none (by simpa using hl)] at e; cases e
    rw [List.getElem?_set_ne nj] at e ⊢
    exact R.urn j m e
  raw := fun j v S e => by
    have nj : i ≠ j := fun q => by
      subst q
      by_cases hl : i < Γ.length
      · rw [List.getElem?_set_self hl] at e; cases e
      · rw [List.getElem?_eq_none (by simpa using hl)] at e; cases e
    rw [List.getElem?_set_ne nj] at e ⊢
    exact R.raw j v S e
  usep := fun j k m d' a h1 h2 h3 h4 => by
    have nj : i ≠ j := fun q => by
      subst q
      by_cases hl : i < Γ.length
      · rw [List.getElem?_set_self hl] at h1; cases h1
      · rw [List.getElem?_eq_none (by simpa using hl)] at h1; cases h1
    have nk : i ≠ k := fun q => by
      subst q
      by_cases hl : i < Γ.length
      · rw [List.getElem?_set_self hl] at h2; cases h2
      · rw [List.getElem?_eq_none (by simpa using hl)] at h2; cases h2
    rw [List.getElem?_set_ne nj] at h1 h3
    rw [List.getElem?_set_ne nk] at h2
    exact R.usep j k m d' a h1 h2 h3 h4
/-- the store of d by the target g: from Γ to Γ', only the slots of vs are changed -/
def Bd (vs : List Nat) (g : TG) (Γ : DEnv) (d : PyData) (Γ' : DEnv) : Prop := ∀ (c : Ct) (σ : L2.St) (H : Hp) (v : V) (k : L2.St → Hp → Prop), REnv c σ H Γ → Db c.B H v d → (∀ σ', REnv c σ' H Γ' → L2.wipe σ' vs = L2.wipe σ vs → k σ' H) → g v σ H k
def Bds (vs : List Nat) (g : TGs) (Γ : DEnv) (ds : List PyData) (Γ' : DEnv) : Prop := ∀ (c : Ct) (σ : L2.St) (H : Hp) (us : List V) (k : L2.St → Hp → Prop), REnv c σ H Γ → DbAll c.B H us ds → (∀ σ', REnv c σ' H Γ' → L2.wipe σ' vs = L2.wipe σ vs → k σ' H) → g us σ H k
theorem wipe_at {σ : L2.St} : ∀ (vs : List Nat) (j : Nat), (L2.wipe σ vs)[j]? = if j ∈ vs ∧ j < σ.length then some none else σ[j]?
  | [], j => by simp [L2.wipe]
  | v :: vs, j => by
    show ((L2.wipe σ vs).set v none)[j]? = _
    by_cases h : v = j
    · subst h
      by_cases hl : v < σ.length
      · rw [List.getElem?_set_self (by rw [L2.wipe_length]; exact hl)]
        simp [hl]
      · rw [List.getElem?_eq_none (by simp [L2.wipe_length]; omega), if_neg (by omega), List.getElem?_eq_none (by omega)]
    · rw [List.getElem?_set_ne h, wipe_at vs j]
      have : (j ∈ v :: vs) ↔ j ∈ vs := by simp [Ne.symm h]
      simp only [this]
theorem wipe_set {σ : L2.St} {vs : List Nat} {i : Nat} {x : Option V} (h : i ∈ vs) : L2.wipe (σ.set i x) vs = L2.wipe σ vs := by
  apply List.ext_getElem?
  intro j
  rw [wipe_at, wipe_at, List.length_set]
  by_cases hj : j ∈ vs ∧ j < σ.length
  · rw [if_pos hj, if_pos hj]
  · rw [if_neg hj, if_neg hj]
    by_cases hij : i = j
    · subst hij
      have : ¬ i < σ.length := fun q => hj ⟨h, q⟩
      rw [List.getElem?_eq_none (by simpa using this), List.getElem?_eq_none (by omega)]
    · rw [List.getElem?_set_ne hij]
theorem wipe_wipe (σ : L2.St) (vs : List Nat) : L2.wipe (L2.wipe σ vs) vs = L2.wipe σ vs := by
  apply List.ext_getElem?
  intro j
  rw [wipe_at, wipe_at, L2.wipe_length]
  by_cases hj : j ∈ vs ∧ j < σ.length
  · rw [if_pos hj, if_pos hj]
  · rw [if_neg hj]
theorem bd_name {vs : List Nat} {Γ : DEnv} {d : PyData} {i : Nat} (h : i ∈ vs := by decide) : Bd vs (gName i) Γ d (Γ.set i (.val d)) := fun c σ H v k R hd q => q _ (R.setVal i hd) (wipe_set h)
theorem bds_nil {vs : List Nat} {Γ : DEnv} : Bds vs gNil Γ [] Γ := fun c σ H us k R hd q => by
  cases hd
  exact ⟨rfl, q _ R rfl⟩
theorem bds_cons {vs : List Nat} {Γ Γ1 Γ2 : DEnv} {d : PyData} {ds : List PyData} {g : TG} {gs : TGs} (h : Bd vs g Γ d Γ1) (hs : Bds vs gs Γ1 ds Γ2) : Bds vs (gCons g gs) Γ (d :: ds) Γ2 := fun c σ H us k R hd q => by
  cases hd with
  | cons h1 h2 =>
    exact ⟨_, _, rfl, h c σ H _ _ R h1 fun σ1 R1 w1 => hs c σ1 H _ _ R1 h2 fun σ2 R2 w2 => q σ2 R2 (w2.trans w1)⟩
theorem bd_tup {K : PySem.W.Frag} {n : Nat} {vs : List Nat} {Γ Γ' : DEnv} {ds : List PyData} {gs : TGs} (h : Bds vs gs Γ ds Γ') (hn : ds.length = n := by rfl) : Bd vs (gTup K n gs) Γ (.tuple ds) Γ' := fun c σ H v k R hd q => by
  cases hd with
  | tup e hd => exact ⟨_, _, rfl, e.sq, by rw [hd.length, hn], h c σ H _ k R hd q⟩

/-! ### comprehensions -/
def Ct.plus (c : Ct) (D : Addr) : Ct := { c with B0 := fun b => c.B0 b ∨ b = D, B := fun b => c.B b ∨ b = D }
theorem bn_plus {bz : Bool} {c : Ct} {D : Addr} : bn bz (c.plus D) = fun b => bn bz c b ∨ b = D := by cases bz <;> rfl
theorem REnv.inner {c : Ct} {σ : L2.St} {H1 H2 : Hp} {Γ : DEnv} {D : Addr} {acc : List V} (R : REnv c σ H1 Γ) (hD : H1 D = none) (s : Same H1 H2) (hm : H2 D = some (.lst acc)) : REnv (c.plus D) σ H2 Γ := by
  have kb : ∀ b, (c.plus D).B b → c.B b ∨ H1 b = none := fun b h => h.imp id fun e => by rw [e]; exact hD
  refine ⟨R.len, fun i d e => ?_, fun i d e => ?_, R.sep, fun b h => ?_, fun b h => ?_, fun b o h e => s _ _ (R.keep b o h e), fun i m e => ?_, fun i v S e => let ⟨h1, h2⟩ := R.raw i v S e; ⟨h1, (h2.grow kb).same s⟩, R.usep⟩
  rotate_right
  · obtain ⟨a, h0, h1, h2, h3, h4, h5⟩ := R.urn i m e
    have na : a ≠ D := fun q => by
      subst q
      obtain ⟨o, e, _⟩ := R.muta a h2
      rw [hD] at e
      cases e
    exact ⟨a, h0, h1, .inl h2, fun q => q.elim h3 na, h4, h5.same s⟩
  · obtain ⟨v, h1, h2⟩ := R.val i d e
    exact ⟨v, h1, (h2.banNew kb).same s⟩
  · obtain ⟨a, h1, h2, h3, h4, h5⟩ := R.own i d e
    have na : a ≠ D := fun q => by
      subst q
      obtain ⟨o, e, _⟩ := R.muta a h2
      rw [hD] at e
      cases e
    refine ⟨a, h1, .inl h2, fun q => q.elim h3 na, h4, ?_⟩
    have h6 := h5.same s
    cases h5 with
    | lst q1 q2 => exact .lst ⟨q1.1, s _ _ q1.2⟩ ((q2.banNew kb).same s)
    | dK q1 q2 => exact .dK (s _ _ q1) ((q2.banNew kb).same s)
    | dT q1 q2 => exact .dT (s _ _ q1) ((q2.banNew kb).same s)
  · rcases h with h | h
    · obtain ⟨o, e, m⟩ := R.muta b h
      exact ⟨o, s _ _ e, m⟩
    · subst h
      exact ⟨_, hm, trivial⟩
  · rcases h with h | h
    · exact .inl (R.sub b h)
    · exact .inr h
/-- tests of a comprehension -/
abbrev Tsv (X : Cx) (Γ : DEnv) (ifs : List Expr) (b : Bool) : Prop := PTs X ifs (tTv Γ b)
theorem tsv_nil {X : Cx} {Γ : DEnv} : Tsv X Γ [] true := ⟨fun pins s σ H Q I ⟨c, R, k⟩ => pts_nil.run pins s σ H Q I (k H (Same.refl H))⟩
theorem tsv_one {X : Cx} {Γ : DEnv} {e : Expr} {b : Bool} (h : Tv X Γ e b) : Tsv X Γ [e] b := pts_one h
section
variable {X : Cx} {bz : Bool} {Γ : DEnv} {elt tg iter : Expr} {ifs : List Expr} {scope : Scope} {pos : Pos}
theorem filter_take {α : Type} {xs : List α} {i : Nat} {x : α} (h : xs[i]? = some x) (p : α → Bool) : (xs.take (i + 1)).filter p = (xs.take i).filter p ++ (if p x = true then [x] else []) := by
  rw [List.take_add_one, h, List.filter_append]
  cases hp : p x <;> simp [hp]
/-- a comprehension, by its parts -/
def LcB (bz : Bool) (X : Cx) (Γ : DEnv) (elt tg iter : Expr) (ifs : List Expr) (scope : Scope) (d : PyData) : Prop := ∃ (own : List (Str × Nat)) (gt : TG) (wi : TI) (tt : TT) (te : TE), X.calm = true ∧ X.N.Nodup ∧ PI X tg iter wi ∧ BlkOk X.N X.env.scope scope own ∧
  (∀ (s : Shared) (H : Hp) (C : Addr) (cl : List (Str × Addr)) (fp : List Addr), PG (X.blk s H scope (compEnvC scope cl C X.env) fp) tg gt) ∧ (∀ (s : Shared) (H : Hp) (C : Addr) (cl : List (Str × Addr)) (fp : List Addr), PTs (X.blk s H scope (compEnvC scope cl C X.env) fp) ifs tt) ∧
  (∀ (s : Shared) (H : Hp) (C : Addr) (cl : List (Str × Addr)) (fp : List Addr), PE (X.blk s H scope (compEnvC scope cl C X.env) fp) elt te) ∧ (∀ x, foldedSetIterable iter X.env x = pure x) ∧ ∀ σ H Q, tEv bz Γ d σ H Q → tLc wi gt tt te (own.map (·.2)) σ H Q
theorem LcB.ev {d : PyData} (h : LcB bz X Γ elt tg iter ifs scope d) : Ev bz X Γ (.ListComp elt [⟨tg, iter, ifs, 0⟩] scope pos) d := by
  obtain ⟨own, gt, wi, tt, te, h1, h2, h3, h4, h5, h6, h7, h8, h9⟩ := h
  exact PE_mono (pe_lc h1 h2 h3 h4 h5 h6 h7 h8) h9
theorem LcB.cast {d d' : PyData} (h : LcB bz X Γ elt tg iter ifs scope d) (q : d = d') : LcB bz X Γ elt tg iter ifs scope d' := q ▸ h
theorem lc_b {α : Type} (own : List (Str × Nat)) (g : XG X.calm X.A X.N) {gt : TG} (xs : List α) (f : α → PyData) (p : α → Bool) (r : α → PyData) (Γb : α → DEnv)
    (hi : Ei bz X tg Γ iter (xs.map f)) (ok : BlkOk X.N X.env.scope scope own)
    (hg : ∀ (s : Shared) (H : Hp) (C : Addr) (cl : List (Str × Addr)) (fp : List Addr), PG (X.blk s H scope (compEnvC scope cl C X.env) fp) tg gt)
    (hbd : ∀ x ∈ xs, Bd (own.map (·.2)) gt (wipG Γ (own.map (·.2))) (f x) (Γb x))
    (ht : ∀ (s : Shared) (H : Hp) (C : Addr) (cl : List (Str × Addr)) (fp : List Addr), ∀ x ∈ xs, Tsv (X.blk s H scope (compEnvC scope cl C X.env) fp) (Γb x) ifs (p x))
    (he : ∀ (s : Shared) (H : Hp) (C : Addr) (cl : List (Str × Addr)) (fp : List Addr), ∀ x ∈ xs, p x = true → Ev bz (X.blk s H scope (compEnvC scope cl C X.env) fp) (Γb x) elt (r x))
    (hs : ∀ x, foldedSetIterable iter X.env x = pure x := by intro _; rfl) :
    LcB bz X Γ elt tg iter ifs scope (.list ((xs.filter p).map r)) := by
  refine ⟨own, gt, _, fun σ H Q => ∃ x : α, x ∈ xs ∧ tTv (Γb x) (p x) σ H Q, fun σ H Q => ∃ x : α, (x ∈ xs ∧ p x = true) ∧ tEv bz (Γb x) (r x) σ H Q, g.calm, g.nd, hi, ok, hg,
    fun s H C cl fp => PTs_ex fun x hx => ht s H C cl fp x hx, fun s H C cl fp => PE_ex fun x hx => he s H C cl fp x hx.1 hx.2, hs, fun σ H Q ⟨c, R, k⟩ => ⟨c, R, fun J H1 s1 ⟨G, Y, hz, w, hG, hY⟩ D hD => ?_⟩⟩
  have R1 := R.same s1
  rw [List.length_map] at w hz
  refine lc_it (g := gt) (tt := fun σ H Q => ∃ x : α, x ∈ xs ∧ tTv (Γb x) (p x) σ H Q) (te := fun σ H Q => ∃ x : α, (x ∈ xs ∧ p x = true) ∧ tEv bz (Γb x) (r x) σ H Q) (vs := own.map (·.2)) (σ := σ) (Qd := fun H => Q (.ref D) H) w (fun i H2 => Same H1 H2 ∧ ∃ acc, H2 D = some (.lst acc) ∧ DbAll (fun b => bn bz c b ∨ b = D) H2 acc (((xs.take i).filter p).map r)) ⟨same_new hD _, [], upd_same, .nil⟩ (fun i H2 _ h => hG H2 (Same.stp h.1)) (fun i v H2 H3 hi ⟨s2, acc, ea, ha⟩ y => ?_) fun H2 ⟨s2, acc, ea, ha⟩ => ?_
  · have hx : xs[i]? = some xs[i] := List.getElem?_eq_getElem hi
    obtain ⟨s3, d, hd, hv⟩ := hY i H2 v H3 (by simpa using hi) (Same.stp s2) y
    have ed : d = f xs[i] := by
      rw [List.getElem?_map, hx] at hd
      exact (Option.some.inj hd).symm
    subst ed
    have hm : xs[i] ∈ xs := List.getElem_mem hi
    have R3 : REnv (c.plus D) σ H3 Γ := R1.inner hD (s2.trans s3) (s3 _ _ ea)
    have hv' : Db (c.plus D).B H3 v (f xs[i]) := hv _ (fun b h => .inl h) fun b h => h.imp id fun e => by rw [e]; exact hD
    refine hbd xs[i] hm (c.plus D) _ H3 v _ (R3.wipe _) hv' fun σ2 R4 w4 => ⟨w4.trans (wipe_wipe _ _), xs[i], hm, c.plus D, R4, fun H4 s4 => ?_⟩
    have hlen : acc.length < sizeLine := by
      rw [ha.length, List.length_map]
      refine Nat.lt_of_lt_of_le ?_ hz
      refine Nat.lt_of_le_of_lt (List.length_filter_le _ _) ?_
      rw [List.length_take]
      omega
    rw [filter_take hx p]
    refine ite2 (fun hp => ?_) (fun hp => ?_)
    · refine ⟨xs[i], ⟨hm, hp⟩, c.plus D, R4.same s4, fun z H5 s5 hz => ?_⟩
      have S := s3.trans (s4.trans s5)
      refine ⟨acc, S _ _ ea, hlen, fun b o e => ?_, acc ++ [z], upd_same, ?_⟩
      · rw [upd_ne (ne_of_none e hD)]
        exact S _ _ (s2 _ _ e)
      · rw [if_pos hp, List.map_append, List.map_cons, List.map_nil]
        rw [bn_plus] at hz
        have mv : ∀ b o, (¬ (bn bz c b ∨ b = D) ∨ ¬ IsMut o) → H5 b = some o → (upd H5 D (.lst (acc ++ [z]))) b = some o := fun b o h e => by
          have nb : b ≠ D := fun q => by
            rcases h with h | h
            · exact h (.inr q)
            · rw [q, S _ _ ea] at e
              cases e
              exact h trivial
          rw [upd_ne nb]
          exact e
        exact (Db.mvAll mv _ _ (ha.same S)).append (.one (hz.mv mv))
    · rw [if_neg hp, List.append_nil]
      exact ⟨s2.trans (s3.trans s4), acc, s4 _ _ (s3 _ _ ea), ha.same (s3.trans s4)⟩
  · rw [List.take_length] at ha
    exact k _ _ (s1.trans s2) (.lst (bn_new R1 hD) ⟨by rw [ha.length, List.length_map]; exact Nat.le_trans (List.length_filter_le _ _) hz, ea⟩ (Db.banAll (fun b h => .inl h) _ _ ha))
theorem ev_lc {α : Type} (own : List (Str × Nat)) (g : XG X.calm X.A X.N) {gt : TG} (xs : List α) (f : α → PyData) (p : α → Bool) (r : α → PyData) (Γb : α → DEnv)
    (hi : Ei bz X tg Γ iter (xs.map f)) (ok : BlkOk X.N X.env.scope scope own)
    (hg : ∀ (s : Shared) (H : Hp) (C : Addr) (cl : List (Str × Addr)) (fp : List Addr), PG (X.blk s H scope (compEnvC scope cl C X.env) fp) tg gt)
    (hbd : ∀ x ∈ xs, Bd (own.map (·.2)) gt (wipG Γ (own.map (·.2))) (f x) (Γb x))
    (ht : ∀ (s : Shared) (H : Hp) (C : Addr) (cl : List (Str × Addr)) (fp : List Addr), ∀ x ∈ xs, Tsv (X.blk s H scope (compEnvC scope cl C X.env) fp) (Γb x) ifs (p x))
    (he : ∀ (s : Shared) (H : Hp) (C : Addr) (cl : List (Str × Addr)) (fp : List Addr), ∀ x ∈ xs, p x = true → Ev bz (X.blk s H scope (compEnvC scope cl C X.env) fp) (Γb x) elt (r x))
    (hs : ∀ x, foldedSetIterable iter X.env x = pure x := by intro _; rfl) :
    Ev bz X Γ (.ListComp elt [⟨tg, iter, ifs, 0⟩] scope pos) (.list ((xs.filter p).map r)) := (lc_b own g xs f p r Γb hi ok hg hbd ht he hs).ev
end
end DL

namespace DL
open PySem PySem.Spec PyProof.Rows L2

/-! ### statements -/
/-- from c, H to c', H': one's own things may have changed, new ones come -/
structure Le (c c' : Ct) (H H' : Hp) : Prop where
  b0 : c'.B0 = c.B0
  u : c'.U = c.U
  h0 : c'.H0 = c.H0
  le : ∀ b, c.B b → c'.B b
  new : ∀ b, c'.B b → c.B b ∨ H b = none
  keep : ∀ b o, (¬ c.B b ∨ ¬ IsMut o) → H b = some o → H' b = some o
  ua : ∀ a, c.ua = some a → c'.ua = some a
theorem Le.same {c : Ct} {H H' : Hp} (s : Same H H') : Le c c H H' := ⟨rfl, rfl, rfl, fun _ h => h, fun _ h => .inl h, fun b o _ e => s b o e, fun _ h => h⟩
theorem Le.trans {c c1 c2 : Ct} {H H1 H2 : Hp} (x : Le c c1 H H1) (y : Le c1 c2 H1 H2) : Le c c2 H H2 := by
  have back : ∀ b, c1.B b → c.B b ∨ H b = none := x.new
  refine ⟨y.b0.trans x.b0, y.u.trans x.u, y.h0.trans x.h0, fun b h => y.le b (x.le b h), fun b h => ?_, fun b o h e => ?_, fun a h => y.ua a (x.ua a h)⟩
  · rcases y.new b h with h | h
    · exact x.new b h
    · by_cases hb : c.B b
      · exact .inl hb
      · cases e : H b with
        | none => exact .inr rfl
        | some o =>
          rw [x.keep b o (.inl hb) e] at h
          cases h
  · have e1 := x.keep b o h e
    refine y.keep b o ?_ e1
    rcases h with h | h
    · exact .inl fun z => (x.new b z).elim h fun q => by rw [e] at q; cases q
    · exact .inr h
theorem Le.db {c c' : Ct} {H H' : Hp} {v : V} {d : PyData} (x : Le c c' H H') (h : Db c.B H v d) : Db c'.B H' v d :=
  (h.banNew x.new).mv fun b o q e => x.keep b o (q.imp (fun n z => n (x.le b z)) id) e
def tSt (Γ : DEnv) (N : DEnv → Prop) (R : PyData → DEnv → Prop) : TS := fun D σ H => ∃ c : Ct, REnv c σ H Γ ∧ (∀ c' σ' H' Γ', Le c c' H H' → N Γ' → REnv c' σ' H' Γ' → D.nx σ' H') ∧
  (∀ c' σ' H' Γ' v d, Le c c' H H' → R d Γ' → REnv c' σ' H' Γ' → Db c.B0 H' v d → D.rt v H')
/-- a block: falls through to N, or returns by R -/
abbrev St (X : Cx) (Γ : DEnv) (ss : List Stmt) (N : DEnv → Prop) (R : PyData → DEnv → Prop) : Prop := PSs X ss (tSt Γ N R)
abbrev S1 (X : Cx) (Γ : DEnv) (s : Stmt) (N : DEnv → Prop) (R : PyData → DEnv → Prop) : Prop := PS X s (tSt Γ N R)
section
variable {X : Cx} {bz : Bool} {Γ Γ' : DEnv} {N N1 : DEnv → Prop} {R : PyData → DEnv → Prop} {s : Stmt} {ss body els : List Stmt} {e : Expr} {d : PyData} {pos : Pos}
theorem st_nil (h : N Γ) : St X Γ [] N R := PSs_mono pss_nil fun D σ H ⟨c, E, k, _⟩ => k c σ H Γ (Le.same (Same.refl H)) h E
theorem st_cons (h : S1 X Γ s N1 R) (hs : ∀ Γ1, N1 Γ1 → St X Γ1 ss N R) : St X Γ (s :: ss) N R :=
  PSs_mono (pss_cons h (PSs_ex (φ := N1) (t := fun Γ1 => tSt Γ1 N R) hs)) fun D σ H ⟨c, E, k, r⟩ => ⟨c, E, fun c1 σ1 H1 Γ1 l1 n1 E1 => ⟨Γ1, n1, c1, E1, fun c2 σ2 H2 Γ2 l2 n2 E2 => k c2 σ2 H2 Γ2 (l1.trans l2) n2 E2, fun c2 σ2 H2 Γ2 v d l2 r2 E2 h2 => r c2 σ2 H2 Γ2 v d (l1.trans l2) r2 E2 (l1.b0 ▸ h2)⟩, r⟩
/-- the last statement of a block -/
theorem st_one (h : S1 X Γ s N R) : St X Γ [s] N R := pss_one h
/-- .. with the next environment known -/
theorem st_to (h : S1 X Γ s (fun G => G = Γ') R) (hs : St X Γ' ss N R) : St X Γ (s :: ss) N R := st_cons h fun Γ1 e => by rw [e]; exact hs
theorem Ev.frozen (h : Ev false X Γ e d) : Ev true X Γ e d := PE_mono h fun σ H Q ⟨c, E, k⟩ => ⟨c, E, fun v H1 s1 h1 => k v H1 s1 (h1.ban E.sub)⟩
theorem s_ret (h : Ev true X Γ e d) (hr : R d Γ) : S1 X Γ (.Return (some e) pos) N R := PS_mono (ps_ret h) fun D σ H ⟨c, E, k, r⟩ => ⟨c, E, fun v H1 s1 h1 => r c σ H1 Γ v d (Le.same s1) hr (E.same s1) h1⟩
theorem s_retN (hr : R .none Γ) : S1 X Γ (.Return none pos) N R := PS_mono ps_retN fun D σ H ⟨c, E, k, r⟩ => r c σ H Γ _ .none (Le.same (Same.refl H)) hr E .non
theorem s_expr (h : Ev true X Γ e d) (hn : N Γ) (hs : swapsWith e none pos.line X.env = pure false := by rfl) : S1 X Γ (.Expr e pos) N R := PS_mono (ps_expr h hs) fun D σ H ⟨c, E, k, r⟩ => ⟨c, E, fun v H1 s1 h1 => k c σ H1 Γ (Le.same s1) hn (E.same s1)⟩
theorem s_pass (hn : N Γ) : S1 X Γ (.Pass pos) N R := PS_mono ps_pass fun D σ H ⟨c, E, k, r⟩ => k c σ H Γ (Le.same (Same.refl H)) hn E
theorem s_if {t : Expr} {b : Bool} (ht : Tv X Γ t b) (ha : b = true → St X Γ body N R) (hb : b = false → St X Γ els N R) : S1 X Γ (.If t body els pos) N R := by
  cases b
  · exact PS_mono (ps_if ht (pss_never (sts := body)) (hb rfl)) fun D σ H ⟨c, E, k, r⟩ => ⟨c, E, fun H1 s1 => L2.iteF ⟨c, E.same s1, fun c2 σ2 H2 Γ2 l2 => k c2 σ2 H2 Γ2 ((Le.same s1).trans l2), fun c2 σ2 H2 Γ2 v d l2 => r c2 σ2 H2 Γ2 v d ((Le.same s1).trans l2)⟩⟩
  · exact PS_mono (ps_if ht (ha rfl) (pss_never (sts := els))) fun D σ H ⟨c, E, k, r⟩ => ⟨c, E, fun H1 s1 => L2.iteT ⟨c, E.same s1, fun c2 σ2 H2 Γ2 l2 => k c2 σ2 H2 Γ2 ((Le.same s1).trans l2), fun c2 σ2 H2 Γ2 v d l2 => r c2 σ2 H2 Γ2 v d ((Le.same s1).trans l2)⟩⟩
/-- .. then what follows -/
theorem st_if {t : Expr} {b : Bool} (ht : Tv X Γ t b) (ha : b = true → St X Γ body N1 R) (hb : b = false → St X Γ els N1 R) (hs : ∀ Γ1, N1 Γ1 → St X Γ1 ss N R) : St X Γ (.If t body els pos :: ss) N R := st_cons (s_if ht ha hb) hs
/-- an if that returns -/
theorem st_ifR {t : Expr} {b : Bool} (ht : Tv X Γ t b) (ha : b = true → St X Γ body (fun _ => False) R) (hs : b = false → St X Γ ss N R) : St X Γ (.If t body [] pos :: ss) N R :=
  st_cons (N1 := fun G => G = Γ ∧ b = false) (s_if ht (fun e => PSs_mono (ha e) fun D σ H ⟨c, E, k, r⟩ => ⟨c, E, fun _ _ _ _ _ n => n.elim, r⟩) fun e => st_nil ⟨rfl, e⟩) fun Γ1 ⟨e1, e2⟩ => by rw [e1]; exact hs e2
/-- an if whose test never holds (a check that passes) -/
theorem st_ifF {t : Expr} (ht : Tv X Γ t false) (hs : St X Γ ss N R) : St X Γ (.If t body [] pos :: ss) N R := st_ifR (b := false) ht nofun fun _ => hs
/-! ### stores -/
theorem s_set {i : Nat} {x : Str} {pos' : Pos} (h : Ev false X Γ e d) (g : XG X.calm X.A X.N) (hi : X.N[i]? = some x := by rfl) (hx : Loc X.env.scope x := by first | exact .inl rfl | exact .inr rfl) (hs : swapsWith e (some (.Name x pos')) pos.line X.env = pure false := by rfl)
    (hf : X.fn x = true ∨ X.env.scope.names.lookup x = some .local := by first | exact .inl rfl | exact .inr rfl | assumption) : S1 X Γ (.Assign [.Name x pos'] e pos) (fun G => G = Γ.set i (.val d)) R :=
  PS_mono (ps_set (i := i) g.nd hi hx h hs hf) fun D σ H ⟨c, E, k, r⟩ => ⟨c, E, fun v H1 s1 h1 => k c _ H1 _ (Le.same s1) rfl ((E.same s1).setVal i h1)⟩
/-- x = [..] on one line -/
theorem s_setLc {i : Nat} {x : Str} {pos' cpos : Pos} {elt tg iter : Expr} {ifs : List Expr} {scope : Scope} (h : LcB false X Γ elt tg iter ifs scope d) (g : XG X.calm X.A X.N) (hi : X.N[i]? = some x := by rfl) (hx : X.env.scope.names.lookup x = some .local := by rfl)
    (hs : swapsWith (.ListComp elt [⟨tg, iter, ifs, 0⟩] scope cpos) (some (.Name x pos')) pos.line X.env = pure true := by rfl) : S1 X Γ (.Assign [.Name x pos'] (.ListComp elt [⟨tg, iter, ifs, 0⟩] scope cpos) pos) (fun G => G = Γ.set i (.val d)) R := by
  obtain ⟨own, gt, wi, tt, te, h1, h2, h3, h4, h5, h6, h7, h8, h9⟩ := h
  exact PS_mono (ps_setLc (i := i) h1 h2 hi hx hs h3 h4 h5 h6 h7 h8) fun D σ H ⟨c, E, k, r⟩ => h9 σ H _ ⟨c, E, fun v H1 s1 h1 => k c _ H1 _ (Le.same s1) rfl ((E.same s1).setVal i h1)⟩
/-- a frozen value that holds no list -/
theorem s_setF {i : Nat} {x : Str} {pos' : Pos} (h : Ev true X Γ e d) (hfl : flatD d = true) (g : XG X.calm X.A X.N) (hi : X.N[i]? = some x := by rfl) (hx : Loc X.env.scope x := by first | exact .inl rfl | exact .inr rfl) (hs : swapsWith e (some (.Name x pos')) pos.line X.env = pure false := by rfl)
    (hf : X.fn x = true ∨ X.env.scope.names.lookup x = some .local := by first | exact .inl rfl | exact .inr rfl | assumption) : S1 X Γ (.Assign [.Name x pos'] e pos) (fun G => G = Γ.set i (.val d)) R :=
  PS_mono (ps_set (i := i) g.nd hi hx h hs hf) fun D σ H ⟨c, E, k, r⟩ => ⟨c, E, fun v H1 s1 h1 => k c _ H1 _ (Le.same s1) rfl ((E.same s1).setVal i (Db.flat _ _ h1 hfl))⟩
/-- a, b = e (e a tuple that is there) -/
theorem s_tup {gt : TG} {tg : Expr} (h : Ev false X Γ e d) (hg : PG X tg gt) (vs : List Nat) (hbd : Bd vs gt Γ d Γ') (hs : swapsWithSole [tg] e pos.line X.env = pure false := by rfl) (hw : swappedStores [tg] e X.env = pure none := by rfl)
    (h1 : (assignEach [tg] X.env).map (·.2) = [assign tg X.env] := by rfl) : S1 X Γ (.Assign [tg] e pos) (fun G => G = Γ') R :=
  PS_mono (ps_asg h hg hs hw h1) fun D σ H ⟨c, E, k, r⟩ => ⟨c, E, fun v H1 s1 h1 => hbd c σ H1 v _ (E.same s1) h1 fun σ' E' _ => k c σ' H1 _ (Le.same s1) rfl E'⟩
/-- a, b = e1, e2 -/
theorem s_par {i j : Nat} {x y : Str} {a b : Expr} {px py pt : Pos} {kt k2 pt2} {d1 d2 : PyData} (h : Av false X Γ [a, b] [d1, d2]) (g : XG X.calm X.A X.N) (hi : X.N[i]? = some x := by rfl) (hj : X.N[j]? = some y := by rfl) (hij : i ≠ j := by decide)
    (hx : X.env.scope.names.lookup x = some .local := by rfl) (hy : X.env.scope.names.lookup y = some .local := by rfl)
    (hw : swappedStores [.Tuple [.Name x px, .Name y py] kt pt] (.Tuple [a, b] k2 pt2) X.env = pure (some [x, y]) := by rfl) : S1 X Γ (.Assign [.Tuple [.Name x px, .Name y py] kt pt] (.Tuple [a, b] k2 pt2) pos) (fun G => G = (Γ.set i (.val d1)).set j (.val d2)) R :=
  PS_mono (ps_par g.calm g.nd hi hj hij hx hy h hw) fun D σ H ⟨c, E, k, r⟩ => ⟨c, E, fun vs H1 s1 h1 => by
    cases h1 with
    | cons q1 t =>
      cases t with
      | cons q2 t =>
        cases t
        exact ⟨_, _, rfl, k c _ H1 _ (Le.same s1) rfl (((E.same s1).setVal i q1).setVal j q2)⟩⟩
/-! ### own lists -/
theorem REnv.grow {c : Ct} {σ : L2.St} {H H1 : Hp} {q : Addr} (E : REnv c σ H Γ) (s : Same H H1) (hq : H q = none) {o : HO} (hm : H1 q = some o) (mo : IsMut o) : REnv { c with B := fun b => c.B b ∨ b = q } σ H1 Γ ∧ Le c { c with B := fun b => c.B b ∨ b = q } H H1 := by
  have kb : ∀ b, (c.B b ∨ b = q) → c.B b ∨ H b = none := fun b h => h.imp id fun e => by rw [e]; exact hq
  refine ⟨⟨E.len, fun i d e => ?_, fun i d e => ?_, E.sep, fun b h => ?_, fun b h => .inl (E.sub b h), fun b o h e => s _ _ (E.keep b o h e), fun i m e => ?_, fun i v S e => let ⟨h1, h2⟩ := E.raw i v S e; ⟨h1, (h2.grow kb).same s⟩, E.usep⟩, ⟨rfl, rfl, rfl, fun _ h => .inl h, kb, fun b o _ e => s b o e, fun _ h => h⟩⟩
  rotate_right
  · obtain ⟨a, h0, h1, h2, h3, h4, h5⟩ := E.urn i m e
    exact ⟨a, h0, h1, .inl h2, h3, h4, h5.same s⟩
  · obtain ⟨v, h1, h2⟩ := E.val i d e
    exact ⟨v, h1, (h2.banNew kb).same s⟩
  · obtain ⟨a, h1, h2, h3, h4, h5⟩ := E.own i d e
    refine ⟨a, h1, .inl h2, h3, h4, ?_⟩
    cases h5 with
    | lst q1 q2 => exact .lst ⟨q1.1, s _ _ q1.2⟩ ((q2.banNew kb).same s)
    | dK q1 q2 => exact .dK (s _ _ q1) ((q2.banNew kb).same s)
    | dT q1 q2 => exact .dT (s _ _ q1) ((q2.banNew kb).same s)
  · rcases h with h | h
    · obtain ⟨o, e, m⟩ := E.muta b h
      exact ⟨o, s _ _ e, m⟩
    · subst h
      exact ⟨_, hm, mo⟩
/-- e makes a new object that holds d -/
def tNw (Γ : DEnv) (d : PyData) : TE := fun σ H Q => ∃ c : Ct, REnv c σ H Γ ∧ ∀ q H1, H q = none → Same H H1 → OwnAt (fun b => c.B b ∨ b = q) H1 q d → Q (.ref q) H1
abbrev Nw (X : Cx) (Γ : DEnv) (e : Expr) (d : PyData) : Prop := PE X e (tNw Γ d)
theorem free_of_same {H H1 : Hp} {q : Addr} (s : Same H H1) (h : H1 q = none) : H q = none := by
  cases e : H q with
  | none => rfl
  | some o => rw [s _ _ e] at h; cases h
theorem REnv.setOwn {c : Ct} {σ : L2.St} {H : Hp} (E : REnv c σ H Γ) (i : Nat) {q : Addr} {d : PyData} (h1 : c.B q) (h2 : ¬ c.B0 q) (h3 : c.U q ∨ c.H0 q = none) (h4 : OwnAt c.B H q d) (new : ∀ (j : Nat) (d : PyData), Γ[j]? = some (Slot.own d) → j ≠ i → σ[j]? ≠ some (some (.ref q))) (nu : ∀ (j m : Nat), Γ[j]? = some (Slot.urn m) → c.ua ≠ some q) : REnv c (σ.set i (some (.ref q))) H (Γ.set i (.own d)) where
  len := by simp [E.len]
  val := fun j d' e => by
    by_cases hij : i = j
    · subst hij
      by_cases hl : i < Γ.length
      · rw [List.getElem?_set_self hl] at e; cases e
      · rw [List.getElem?_eq_none (by simpa using hl)] at e; cases e
    · rw [List.getElem?_set_ne hij] at e ⊢
      exact E.val j d' e
  own := fun j d' e => by
    by_cases hij : i = j
    · subst hij
      by_cases hl : i < Γ.length
      · rw [List.getElem?_set_self hl] at e; cases e
        exact ⟨q, List.getElem?_set_self (by rw [E.len]; exact hl), h1, h2, h3, h4⟩
      · rw [List.getElem?_eq_none (by simpa using hl)] at e; cases e
    · rw [List.getElem?_set_ne hij] at e ⊢
      exact E.own j d' e
  sep := fun j k d1 d2 a hjk e1 e2 e3 e4 => by
    by_cases hij : i = j
    · subst hij
      have hl : i < Γ.length := by
        by_cases hl : i < Γ.length
        · exact hl
        · rw [List.getElem?_eq_none (by simpa using hl)] at e1; cases e1
      rw [List.getElem?_set_self (by rw [E.len]; exact hl)] at e3
      cases e3
      rw [List.getElem?_set_ne hjk] at e2 e4
      exact new k d2 e2 (Ne.symm hjk) e4
    · rw [List.getElem?_set_ne hij] at e1 e3
      by_cases hik : i = k
      · subst hik
        have hl : i < Γ.length := by
          by_cases hl : i < Γ.length
          · exact hl
          · rw [List.getElem?_eq_none (by simpa using hl)] at e2; cases e2
        rw [List.getElem?_set_self (by rw [E.len]; exact hl)] at e4
        cases e4
        exact new j d1 e1 (Ne.symm hij) e3
      · rw [List.getElem?_set_ne hik] at e2 e4
        exact E.sep j k d1 d2 a hjk e1 e2 e3 e4
  muta := E.muta
  sub := E.sub
  keep := E.keep
  urn := fun j m e => by
    have nj : i ≠ j := fun q => by
      subst q
      by_cases hl : i < Γ.length
      · rw [List.getElem?_set_self hl] at e; cases e
      · rw [List.getElem?_eq_none (by simpa using hl)] at e; cases e
    rw [List.getElem?_set_ne nj] at e ⊢
    exact E.urn j m e
  raw := fun j v S e => by
    have nj : i ≠ j := fun q => by
      subst q
      by_cases hl : i < Γ.length
      · rw [List.getElem?_set_self hl] at e; cases e
      · rw [List.getElem?_eq_none (by simpa using hl)] at e; cases e
    rw [List.getElem?_set_ne nj] at e ⊢
    exact E.raw j v S e
  usep := fun j k m d' a h1 h2 h3 h4 => by
    have nk : i ≠ k := fun q => by
      subst q
      by_cases hl : i < Γ.length
      · rw [List.getElem?_set_self hl] at h2; cases h2
      · rw [List.getElem?_eq_none (by simpa using hl)] at h2; cases h2
    rw [List.getElem?_set_ne nk] at h2
    by_cases hij : i = j
    · subst hij
      have hl : i < Γ.length := by
        by_cases hl : i < Γ.length
        · exact hl
        · rw [List.getElem?_eq_none (by simpa using hl)] at h1; cases h1
      rw [List.getElem?_set_self (by rw [E.len]; exact hl)] at h3
      cases h3
      exact nu k m h2 h4
    · rw [List.getElem?_set_ne hij] at h1 h3
      exact E.usep j k m d' a h1 h2 h3 h4
theorem OwnAt.muta {B : Addr → Prop} {H : Hp} {a : Addr} {d : PyData} (h : OwnAt B H a d) : ∃ o, H a = some o ∧ IsMut o := by
  cases h with
  | lst e _ => exact ⟨_, e.2, trivial⟩
  | dK e _ => exact ⟨_, e, trivial⟩
  | dT e _ => exact ⟨_, e, trivial⟩
theorem s_own {i : Nat} {x : Str} {pos' : Pos} (h : Nw X Γ e d) (g : XG X.calm X.A X.N) (hi : X.N[i]? = some x := by rfl) (hx : Loc X.env.scope x := by first | exact .inl rfl | exact .inr rfl) (hs : swapsWith e (some (.Name x pos')) pos.line X.env = pure false := by rfl)
    (hf : X.fn x = true ∨ X.env.scope.names.lookup x = some .local := by first | exact .inl rfl | exact .inr rfl | assumption) : S1 X Γ (.Assign [.Name x pos'] e pos) (fun G => G = Γ.set i (.own d)) R :=
  PS_mono (ps_set (i := i) g.nd hi hx h hs hf) fun D σ H ⟨c, E, k, r⟩ => ⟨c, E, fun q H1 hq s1 ho => by
    obtain ⟨o, ho1, ho2⟩ := ho.muta
    obtain ⟨E1, L1⟩ := E.grow s1 hq ho1 ho2
    refine k _ _ H1 _ L1 rfl (E1.setOwn i (.inr rfl) (fun z => ?_) ?_ ho (fun j d' e _ z => ?_) ?_)
    · obtain ⟨o', e', _⟩ := E.muta q (E.sub q z)
      rw [hq] at e'
      cases e'
    · by_cases hu : c.U q
      · exact .inl hu
      · cases e : c.H0 q with
        | none => exact .inr rfl
        | some o' =>
          rw [E.keep q o' hu e] at hq
          cases hq
    · obtain ⟨a, h1, h2, _⟩ := E.own j d' e
      rw [h1] at z
      cases z
      obtain ⟨o', e', _⟩ := E.muta q h2
      rw [hq] at e'
      cases e'
    · intro j m e z
      obtain ⟨a, h0, _, h2, _⟩ := E.urn j m e
      rw [h0] at z
      cases z
      obtain ⟨o', e', _⟩ := E.muta q h2
      rw [hq] at e'
      cases e'⟩
theorem nw_lst {es : List Expr} {ds : List PyData} (h : Av false X Γ es ds) (hl : ds.length ≤ 1000000) : Nw X Γ (.List es pos) (.list ds) :=
  PE_mono (pe_lst h) fun σ H Q ⟨c, E, k⟩ => ⟨c, E, fun vs H1 s1 h1 => ⟨by rw [h1.length]; exact sl_of hl, fun q hq =>
    k q _ (free_of_same s1 hq) (s1.trans (same_new hq _)) (.lst (isL_new (by rw [h1.length]; exact sl_of hl)) ((h1.banNew fun b z => z.imp id fun e => by rw [e]; exact hq).same (same_new hq _)))⟩⟩
theorem nw_list {p : Pos} {x : Str} {d1 : PyData} {ds : List PyData} (hx : x = "list") (hm : X.mg x = none) (ha : Ev false X Γ e d1) (hs : isSeq d1 ds) (hg : Gl X x := by rfl) (hv : bootBuiltins x = some (.type "list") := by decide +kernel)
    (hn : x ≠ "__name__" := by decide) (hdb : (x == ("__debug__" : Str)) = false := by decide)
    (he : starEach [e] X.env = (false, eval e X.env) :: starEach [] X.env := by rfl) (hpl : (backTo pos (starEach [] X.env)).any (·.1) = false := by rfl) : Nw X Γ (.Call (.Name x p) [e] [] pos) (.list ds) :=
  PE_mono (pe_callTy call_list_of hg hm hv (pa_cons ha pa_nil he) hn hdb he hpl) fun σ H Q ⟨c, E, k⟩ => ⟨c, E, fun v H1 s1 h1 => by
    obtain ⟨a, ys, rfl, ra, hy⟩ := DbAll.of_seq h1 hs
    exact ⟨a, ys, rfl, ra.symm.imp IsL.sq IsT.sq, fun q hq => k q _ (free_of_same s1 hq) (s1.trans (same_new hq _)) (.lst (isL_new (ra.elim (·.1) (·.1))) (((show DbAll c.B H1 ys ds from hy).banNew fun b z => z.imp id fun e => by rw [e]; exact hq).same (same_new hq _)))⟩⟩
theorem nw_rep {a b : Expr} {ds : List PyData} {i : Int} (ha : Ev false X Γ a (.list ds)) (hb : Ev false X Γ b (.int i)) (hi : -1000000 ≤ i ∧ i ≤ 1000000) (hl : ds.length * i.toNat ≤ 1000000) : Nw X Γ (.BinOp a .Mult b pos) (.list (List.replicate i.toNat ds).flatten) :=
  PE_mono (pe_op op_rep ha hb) fun σ H Q ⟨c, E, k⟩ => ⟨c, E, fun v1 H1 s1 h1 => ⟨c, E.same s1, fun v2 H2 s2 h2 => by
    cases h2
    cases h1.same s2 with
    | lst n1 r1 h1 =>
      exact ⟨_, _, _, rfl, rfl, r1.2, by omega, by omega, by rw [h1.length]; exact sl_of hl, fun q hq => k q _ (free_of_same (s1.trans s2) hq) ((s1.trans s2).trans (same_new hq _))
        (.lst (isL_new (rep_le h1.length hl)) ((((show DbAll c.B H2 _ ds from h1).rep _).banNew fun b z => z.imp id fun e => by rw [e]; exact hq).same (same_new hq _)))⟩⟩⟩
/-- an own object is changed -/
theorem REnv.change {c : Ct} {σ : L2.St} {H : Hp} (E : REnv c σ H Γ) {i : Nat} {a : Addr} {d0 d1 : PyData} {o : HO} (hi : Γ[i]? = some (.own d0)) (hσ : σ[i]? = some (some (.ref a))) (mo : IsMut o) (h : OwnAt c.B (upd H a o) a d1) : REnv c σ (upd H a o) (Γ.set i (.own d1)) ∧ Le c c H (upd H a o) := by
  obtain ⟨a', e1, hb, hb0, hu, ho⟩ := E.own i d0 hi
  rw [hσ] at e1
  cases e1
  obtain ⟨o0, eo, mo0⟩ := ho.muta
  have mv : ∀ b o', (¬ c.B b ∨ ¬ IsMut o') → H b = some o' → (upd H a o) b = some o' := fun b o' q e => by
    have nb : b ≠ a := fun z => by
      subst z
      rcases q with q | q
      · exact q hb
      · rw [eo] at e
        cases e
        exact q mo0
    rw [upd_ne nb]
    exact e
  have hl : i < Γ.length := (List.getElem?_eq_some_iff.mp hi).1
  refine ⟨⟨by simp [E.len], fun j d e => ?_, fun j d e => ?_, fun j k d e a2 hjk q1 q2 q3 q4 => ?_, fun b q => ?_, E.sub, fun b o' q e => ?_, fun j m e => ?_, fun j v S e => ?_, fun j k m d' a2 q1 q2 q3 q4 => ?_⟩, ⟨rfl, rfl, rfl, fun _ h => h, fun _ h => .inl h, mv, fun _ h => h⟩⟩
  rotate_right 3
  · have nj : i ≠ j := fun q => by
      subst q
      rw [List.getElem?_set_self hl] at e; cases e
    rw [List.getElem?_set_ne nj] at e
    obtain ⟨a2, h0, h1, h2, h3, h4, x, y, z, h5, h6⟩ := E.urn j m e
    have na : a2 ≠ a := fun z => by
      subst z
      exact E.usep i j m d0 a2 hi e hσ h0
    exact ⟨a2, h0, h1, h2, h3, h4, x, y, z, by rw [upd_ne na]; exact h5, h6⟩
  · have nj : i ≠ j := fun q => by
      subst q
      rw [List.getElem?_set_self hl] at e; cases e
    rw [List.getElem?_set_ne nj] at e
    obtain ⟨h1, h2⟩ := E.raw j v S e
    exact ⟨h1, h2.mv mv⟩
  · have nk : i ≠ k := fun q => by
      subst q
      rw [List.getElem?_set_self hl] at q2; cases q2
    rw [List.getElem?_set_ne nk] at q2
    by_cases hij : i = j
    · subst hij
      exact E.usep i k m d0 a2 hi q2 q3 q4
    · rw [List.getElem?_set_ne hij] at q1
      exact E.usep j k m d' a2 q1 q2 q3 q4
  · by_cases hij : i = j
    · subst hij
      rw [List.getElem?_set_self hl] at e
      cases e
    · rw [List.getElem?_set_ne hij] at e
      obtain ⟨v, h1, h2⟩ := E.val j d e
      exact ⟨v, h1, h2.mv mv⟩
  · by_cases hij : i = j
    · subst hij
      rw [List.getElem?_set_self hl] at e
      cases e
      exact ⟨a, hσ, hb, hb0, hu, h⟩
    · rw [List.getElem?_set_ne hij] at e
      obtain ⟨a2, h1, h2, h3, h4, h5⟩ := E.own j d e
      have na : a2 ≠ a := fun z => by
        subst z
        exact E.sep i j d0 d a2 hij hi e hσ h1
      refine ⟨a2, h1, h2, h3, h4, ?_⟩
      cases h5 with
      | lst q1 q2 => exact .lst ⟨q1.1, by rw [upd_ne na]; exact q1.2⟩ (Db.mvAll mv _ _ q2)
      | dK q1 q2 => exact .dK (by rw [upd_ne na]; exact q1) (Db.mvAll mv _ _ q2)
      | dT q1 q2 => exact .dT (by rw [upd_ne na]; exact q1) (Db.mvAll mv _ _ q2)
  · have own' : ∀ (m : Nat) (d : PyData), (Γ.set i (Slot.own d1))[m]? = some (Slot.own d) → ∃ d', Γ[m]? = some (Slot.own d') := fun m d q => by
      by_cases him : i = m
      · subst him
        exact ⟨d0, hi⟩
      · rw [List.getElem?_set_ne him] at q
        exact ⟨d, q⟩
    obtain ⟨x1, y1⟩ := own' j d q1
    obtain ⟨x2, y2⟩ := own' k e q2
    exact E.sep j k x1 x2 a2 hjk y1 y2 q3 q4
  · obtain ⟨o', e', m⟩ := E.muta b q
    by_cases z : b = a
    · subst z
      exact ⟨o, upd_same, mo⟩
    · exact ⟨o', by rw [upd_ne z]; exact e', m⟩
  · have nb : b ≠ a := fun z => by
      subst z
      rcases hu with hu | hu
      · exact q hu
      · rw [hu] at e
        cases e
    rw [upd_ne nb]
    exact E.keep b o' q e
theorem OwnAt.lstOf {B : Addr → Prop} {H : Hp} {a : Addr} {ds : List PyData} (h : OwnAt B H a (.list ds)) : ∃ xs, H a = some (.lst xs) ∧ DbAll B H xs ds ∧ xs.length ≤ sizeLine := by
  cases h with
  | lst q1 q2 => exact ⟨_, q1.2, q2, q1.1⟩
theorem mv_own {c : Ct} {H : Hp} {a : Addr} {o o1 : HO} (hb : c.B a) (q1 : H a = some o) (m : IsMut o) : ∀ b o', (¬ c.B b ∨ ¬ IsMut o') → H b = some o' → (upd H a o1) b = some o' := fun b o' q e => by
  have nb : b ≠ a := fun z => by
    subst z
    rcases q with q | q
    · exact q hb
    · rw [q1] at e
      cases e
      exact q m
  rw [upd_ne nb]
  exact e
theorem s_append {i : Nat} {x : Str} {ds : List PyData} {p1 apos cpos : Pos} (he : Ev false X Γ e d) (hl : ds.length < 1000000) (h : Γ[i]? = some (.own (.list ds)) := by rfl)
    (hN : X.N[i]? = some x := by rfl) (hv : Vis X.env.scope x := by first | exact Or.inl rfl | exact Or.inr (Or.inl rfl) | exact Or.inr (Or.inr rfl)) (hd : (x == ("__debug__" : Str)) = false := by decide)
    (hcd : (x == ("__classdict__" : Str)) = false := by decide)
    (hbase : attributeBase (.Name x p1) "append" X.env (eval (.Name x p1) X.env) = eval (.Name x p1) X.env := by rfl)
    (hfew : ((backTo cpos (starEach [e] X.env)).all (fun x => !x.1) && (backToKw cpos (keywordEach [] X.env)).all (fun x => x.1.isSome)
      && decide ([e].length + ([] : List Keyword).length + (if ([] : List Keyword).isEmpty then 0 else 1) < 30)) = true := by rfl)
    (hline : (apos.endLine == cpos.line) = true := by rfl) (hs : starEach [e] X.env = (false, eval e X.env) :: starEach [] X.env := by rfl) (hplain : (backTo cpos (starEach [] X.env)).any (·.1) = false := by rfl)
    (hsw : swapsWith (.Call (.Attribute (.Name x p1) "append" apos) [e] [] cpos) none pos.line X.env = pure false := by rfl) :
    S1 X Γ (.Expr (.Call (.Attribute (.Name x p1) "append" apos) [e] [] cpos) pos) (fun G => G = Γ.set i (.own (.list (ds ++ [d])))) R :=
  PS_mono (ps_expr (pe_bm PySem.F.plainAttrs_list PySem.F.slot_list_append PySem.F.type_list_append mt_append (pe_var hN hv hd hcd) (pa_cons he pa_nil hs) hbase hfew hline hs hplain) hsw) fun D σ H ⟨c, E, k, r⟩ => by
    obtain ⟨a, h1, h2, h3, h4, h5⟩ := E.own i _ h
    refine ⟨_, h1, ?_, c, E, fun v H1 s1 hv => ?_⟩
    · cases h5 with
      | lst q1 q2 => exact .inl ⟨rfl, _, q1.sq⟩
    · obtain ⟨a', h1', _, _, _, h5'⟩ := (E.same s1).own i _ h
      rw [h1] at h1'
      cases h1'
      obtain ⟨xs, q1, q2, qz⟩ := h5'.lstOf
      refine ⟨a, xs, v, rfl, rfl, q1, ?_, ?_⟩
      · rw [q2.length]
        exact Nat.lt_of_lt_of_le hl sl_ge
      · have mv : ∀ b o', (¬ c.B b ∨ ¬ IsMut o') → H1 b = some o' → (upd H1 a (.lst (xs ++ [v]))) b = some o' := mv_own h2 q1 trivial
        have W := (E.same s1).change h h1 (o := .lst (xs ++ [v])) (d1 := .list (ds ++ [d])) trivial (.lst (isL_new (by rw [List.length_append, q2.length]; exact Nat.le_trans (by simp; omega) sl_ge)) ((Db.mvAll mv _ _ q2).append (.one (hv.mv mv))))
        exact k c σ _ _ ((Le.same s1).trans W.2) rfl W.1
/-- x.extend(e) -/
theorem s_extend {i : Nat} {x : Str} {ds es : List PyData} {p1 apos cpos : Pos} (he : Ev false X Γ e (.list es)) (hl : ds.length + es.length ≤ 1000000) (h : Γ[i]? = some (.own (.list ds)) := by rfl)
    (hN : X.N[i]? = some x := by rfl) (hv : Vis X.env.scope x := by first | exact Or.inl rfl | exact Or.inr (Or.inl rfl) | exact Or.inr (Or.inr rfl)) (hd : (x == ("__debug__" : Str)) = false := by decide)
    (hcd : (x == ("__classdict__" : Str)) = false := by decide)
    (hbase : attributeBase (.Name x p1) "extend" X.env (eval (.Name x p1) X.env) = eval (.Name x p1) X.env := by rfl)
    (hfew : ((backTo cpos (starEach [e] X.env)).all (fun x => !x.1) && (backToKw cpos (keywordEach [] X.env)).all (fun x => x.1.isSome)
      && decide ([e].length + ([] : List Keyword).length + (if ([] : List Keyword).isEmpty then 0 else 1) < 30)) = true := by rfl)
    (hline : (apos.endLine == cpos.line) = true := by rfl) (hs : starEach [e] X.env = (false, eval e X.env) :: starEach [] X.env := by rfl) (hplain : (backTo cpos (starEach [] X.env)).any (·.1) = false := by rfl)
    (hsw : swapsWith (.Call (.Attribute (.Name x p1) "extend" apos) [e] [] cpos) none pos.line X.env = pure false := by rfl) :
    S1 X Γ (.Expr (.Call (.Attribute (.Name x p1) "extend" apos) [e] [] cpos) pos) (fun G => G = Γ.set i (.own (.list (ds ++ es)))) R :=
  PS_mono (ps_expr (pe_bm PySem.F.plainAttrs_list PySem.F.slot_list_extend PySem.F.type_list_extend mt_extend (pe_var hN hv hd hcd) (pa_cons he pa_nil hs) hbase hfew hline hs hplain) hsw) fun D σ H ⟨c, E, k, r⟩ => by
    obtain ⟨a, h1, h2, h3, h4, h5⟩ := E.own i _ h
    refine ⟨_, h1, ?_, c, E, fun v H1 s1 hv => ?_⟩
    · cases h5 with
      | lst q1 q2 => exact .inl ⟨rfl, _, q1.sq⟩
    · obtain ⟨a', h1', _, _, _, h5'⟩ := (E.same s1).own i _ h
      rw [h1] at h1'
      cases h1'
      obtain ⟨xs, q1, q2, qz⟩ := h5'.lstOf
      cases hv with
      | @lst b ys _ nb rb hb =>
        refine ⟨a, b, xs, ys, rfl, rfl, q1, rb.2, ?_, ?_⟩
        · rw [q2.length, hb.length]
          exact sl_of hl
        · have mv : ∀ b o', (¬ c.B b ∨ ¬ IsMut o') → H1 b = some o' → (upd H1 a (.lst (xs ++ ys))) b = some o' := mv_own h2 q1 trivial
          have W := (E.same s1).change h h1 (o := .lst (xs ++ ys)) (d1 := .list (ds ++ es)) trivial (.lst (isL_new (by rw [List.length_append, q2.length, hb.length]; exact sl_of hl)) ((Db.mvAll mv _ _ q2).append (Db.mvAll mv _ _ hb)))
          exact k c σ _ _ ((Le.same s1).trans W.2) rfl W.1
/-- x[e] = v, x an own list -/
theorem s_setitem {i : Nat} {x : Str} {ds : List PyData} {p1 tpos : Pos} {e2 : Expr} {j : Int} {n : Nat} (he : Ev false X Γ e d) (hj : Ev false X Γ e2 (.int j)) (hn : ixN ds.length j = some n) (h : Γ[i]? = some (.own (.list ds)) := by rfl)
    (hN : X.N[i]? = some x := by rfl) (hv : Vis X.env.scope x := by first | exact Or.inl rfl | exact Or.inr (Or.inl rfl) | exact Or.inr (Or.inr rfl)) (hd : (x == ("__debug__" : Str)) = false := by decide)
    (hcd : (x == ("__classdict__" : Str)) = false := by decide)
    (ha : ∀ v, assign (.Subscript (.Name x p1) e2 tpos) X.env v = (do
      let ov ← holding [v] (eval (.Name x p1) X.env)
      let iv ← holding [v, ov] (eval e2 X.env)
      standAt tpos
      holding [v, ov, iv] (setItem ov iv v)
      release [v, ov, iv] []) := by intro _; rfl)
    (hs : swapsWithSole [.Subscript (.Name x p1) e2 tpos] e pos.line X.env = pure false := by rfl) (hw : swappedStores [.Subscript (.Name x p1) e2 tpos] e X.env = pure none := by rfl)
    (hq : (assignEach [.Subscript (.Name x p1) e2 tpos] X.env).map (·.2) = [assign (.Subscript (.Name x p1) e2 tpos) X.env] := by rfl) :
    S1 X Γ (.Assign [.Subscript (.Name x p1) e2 tpos] e pos) (fun G => G = Γ.set i (.own (.list (ds.set n d)))) R :=
  PS_mono (ps_asg he (pg_sub (pe_var hN hv hd hcd) hj set_list ha) hs hw hq) fun D σ H ⟨c, E, k, r⟩ => ⟨c, E, fun v H1 s1 hv => by
    obtain ⟨a, h1, h2, h3, h4, h5⟩ := (E.same s1).own i _ h
    refine ⟨_, h1, c, E.same s1, fun u H2 s2 hu => ?_⟩
    cases hu
    obtain ⟨xs, q1, q2, qz⟩ := (h5.same s2).lstOf
    refine ⟨a, xs, j, n, rfl, rfl, q1, by rw [q2.length]; exact hn, ?_⟩
    have mv : ∀ b o', (¬ c.B b ∨ ¬ IsMut o') → H2 b = some o' → (upd H2 a (.lst (xs.set n v))) b = some o' := mv_own h2 q1 trivial
    have W := ((E.same s1).same s2).change h h1 (o := .lst (xs.set n v)) (d1 := .list (ds.set n d)) trivial (.lst (isL_new (by rw [List.length_set]; exact qz)) (DbAll.setD n (Db.mvAll mv _ _ q2) ((hv.same s2).mv mv)))
    exact k c σ _ _ ((Le.same (s1.trans s2)).trans W.2) rfl W.1⟩

/-! ### loops -/
theorem s_for {α : Type} {tg iter : Expr} {gt : TG} (g : XG X.calm X.A X.N) (vs : List Nat) (xs : List α) (f : α → PyData) (J : Nat → DEnv → Prop) (hi : Ei false X tg Γ iter (xs.map f)) (hg : PG X tg gt) (h0 : J 0 Γ)
    (hb : ∀ (i : Nat) (x : α) (Γ1 : DEnv), xs[i]? = some x → J i Γ1 → ∃ Γ2, Bd vs gt Γ1 (f x) Γ2 ∧ St X Γ2 body (J (i + 1)) R) (hn : ∀ Γ1, J xs.length Γ1 → N Γ1)
    (hp : PassesOwn (model X.prog X.w) X.A X.env X.xe := by exact PassesOwn.never) (hs : ∀ x, foldedSetIterable iter X.env x = pure x := by intro _; rfl) : S1 X Γ (.For tg iter body [] pos) N R := by
  refine PS_mono (ps_for (tb := fun D σ H => ∃ p : Nat × α × DEnv × DEnv, (xs[p.1]? = some p.2.1 ∧ J p.1 p.2.2.1 ∧ St X p.2.2.2 body (J (p.1 + 1)) R) ∧ tSt p.2.2.2 (J (p.1 + 1)) R D σ H) hp g.calm hi hg
    (PSs_ex (φ := fun p : Nat × α × DEnv × DEnv => xs[p.1]? = some p.2.1 ∧ J p.1 p.2.2.1 ∧ St X p.2.2.2 body (J (p.1 + 1)) R) (t := fun p => tSt p.2.2.2 (J (p.1 + 1)) R) fun p hp => hp.2.2) hs) fun D σ H ⟨c, E, k, r⟩ => ⟨c, E, fun Jt H1 s1 ⟨G, Y, hz, w, hG, hY⟩ => ?_⟩
  rw [List.length_map] at w
  have E1 := E.same s1
  refine for_it (g := gt) (tb := fun D σ H => ∃ p : Nat × α × DEnv × DEnv, (xs[p.1]? = some p.2.1 ∧ J p.1 p.2.2.1 ∧ St X p.2.2.2 body (J (p.1 + 1)) R) ∧ tSt p.2.2.2 (J (p.1 + 1)) R D σ H) (D := D) (σ := σ) w (fun i σ2 H2 => ∃ c2 Γ2, J i Γ2 ∧ Le c c2 H1 H2 ∧ REnv c2 σ2 H2 Γ2) ⟨c, Γ, h0, Le.same (Same.refl H1), E1⟩ (fun i σ2 H2 _ ⟨c2, Γ2, _, l, _⟩ => hG H2 fun b o q e => l.keep b o (by rcases q with q | q; exact (nomatch q); exact q) e)
    (fun i v σ2 H2 H3 hi ⟨c2, Γ2, j2, l2, E2⟩ y => ?_) fun σ2 H2 ⟨c2, Γ2, j2, l2, E2⟩ => k c2 σ2 H2 Γ2 ((Le.same s1).trans l2) (hn Γ2 j2) E2
  have hx : xs[i]? = some xs[i] := List.getElem?_eq_getElem hi
  have st2 : Stp false c H1 H2 := fun b o q e => l2.keep b o (by rcases q with q | q; exact (nomatch q); exact q) e
  obtain ⟨s3, d, hd, hv⟩ := hY i H2 v H3 (by simpa using hi) st2 y
  have ed : d = f xs[i] := by
    rw [List.getElem?_map, hx] at hd
    exact (Option.some.inj hd).symm
  subst ed
  obtain ⟨Γ3, hbd, hst⟩ := hb i xs[i] Γ2 hx j2
  refine hbd c2 σ2 H3 v _ (E2.same s3) (hv _ l2.le l2.new) fun σ4 E4 _ => ⟨(i, xs[i], Γ2, Γ3), ⟨hx, j2, hst⟩, c2, E4, fun c5 σ5 H5 Γ5 l5 j5 E5 => ⟨c5, Γ5, j5, l2.trans ((Le.same s3).trans l5), E5⟩, fun c5 σ5 H5 Γ5 u d5 l5 r5 E5 h5 => ?_⟩
  have L := (Le.same s1).trans (l2.trans ((Le.same s3).trans l5))
  exact r c5 σ5 H5 Γ5 u d5 L r5 E5 (l2.b0 ▸ h5)
/-- a loop that changes the environment by the items taken -/
theorem s_forF {α : Type} {tg iter : Expr} {gt : TG} (g : XG X.calm X.A X.N) (vs : List Nat) (xs : List α) (f : α → PyData) (F : List α → DEnv) (hi : Ei false X tg Γ iter (xs.map f)) (hg : PG X tg gt) (h0 : F [] = Γ)
    (hb : ∀ (pre : List α) (x : α) (post : List α), xs = pre ++ x :: post → ∃ Γ2, Bd vs gt (F pre) (f x) Γ2 ∧ St X Γ2 body (fun G => G = F (pre ++ [x])) R) (hn : N (F xs))
    (hp : PassesOwn (model X.prog X.w) X.A X.env X.xe := by exact PassesOwn.never) (hs : ∀ x, foldedSetIterable iter X.env x = pure x := by intro _; rfl) : S1 X Γ (.For tg iter body [] pos) N R :=
  s_for g vs xs f (fun i G => G = F (xs.take i)) hi hg (by rw [List.take_zero]; exact h0.symm) (fun i x Γ1 hx e => by
    subst e
    have hlt : i < xs.length := (List.getElem?_eq_some_iff.mp hx).1
    have hxe : xs[i] = x := (List.getElem?_eq_some_iff.mp hx).2
    obtain ⟨Γ2, h1, h2⟩ := hb (xs.take i) x (xs.drop (i + 1)) (by rw [← hxe, ← List.drop_eq_getElem_cons hlt]; exact (List.take_append_drop i xs).symm)
    refine ⟨Γ2, h1, ?_⟩
    have e2 : xs.take (i + 1) = xs.take i ++ [x] := by rw [List.take_add_one, hx]; rfl
    rw [e2]
    exact h2) (fun Γ1 e => by rw [e, List.take_length]; exact hn) hp hs
end
end DL

namespace DL
open PySem PySem.Spec PyProof.Rows L2

/-! ### defs -/
/-- called with data by P the def hands back what P says; nothing else is changed -/
def spD (P : List PyData → PyData → Prop) : Sp := fun vs H Q _ => ∃ (B : Addr → Prop) (ds : List PyData) (d : PyData), DbAll B H vs ds ∧ (∀ b, B b → ∃ o, H b = some o ∧ IsMut o) ∧ P ds d ∧ ∀ v H', Same H H' → Db B H' v d → Q v H'
/-- the name x stands for a def that keeps P -/
structure FnF (Pr : Program) (w : World) (K : PySem.W.Frag) (mg : Str → Option Value) (base : Heap) (x : Str) (k : Nat) (ps : List Str) (P : List PyData → PyData → Prop) : Prop where
  ex : ∃ (f : Addr) (fd : FuncData), FnOk Pr w K mg base CX0 k f fd ps (spD P) ∧ mg x = some (.ref f) ∧ PySem.W.keepIn K (.ref f) = true ∧ Binds K fd ps []
section
variable {X : Cx} {bz : Bool} {Γ : DEnv} {e : Expr} {es : List Expr} {pos p : Pos} {d : PyData} {ds : List PyData} {x : Str} {k : Nat} {ps : List Str} {P : List PyData → PyData → Prop}
theorem ev_fn (F : FnF X.prog X.w X.K X.mg X.base x k ps P) (hr : Room k X.A) (ha : Av bz X Γ (e :: es) ds) (hp : P ds d) (hg : Gl X x := by rfl) (hdb : (x == ("__debug__" : Str)) = false := by decide)
    (he : starEach (e :: es) X.env = (false, eval e X.env) :: starEach es X.env := by rfl) (hpl : (backTo pos (starEach es X.env)).any (·.1) = false := by rfl) : Ev bz X Γ (.Call (.Name x p) (e :: es) [] pos) d := by
  obtain ⟨f, fd, hF, hm, hk, hb⟩ := F.ex
  refine PE_mono (pe_call hF hr hg hm hk hb .nil pass0 ha hdb he hpl) fun σ H Q ⟨c, R, q⟩ => ⟨c, R, fun vs H1 s1 h1 => ?_⟩
  show spD P (vs ++ []) H1 Q E0
  rw [List.append_nil]
  exact ⟨bn bz c, ds, d, h1, fun b hb => (R.same s1).muta b (bn_le R b hb), hp, fun v H2 s2 h2 => q v H2 (s1.trans s2) h2⟩
end
/-- the environment at a def's entry -/
def env0 (ds : List PyData) (n : Nat) : DEnv := ds.map .val ++ List.replicate (n - ds.length) .no
theorem renv0 {B : Addr → Prop} {H : Hp} {vs : List V} {ds : List PyData} {N : List Str} (h : DbAll B H vs ds) (hm : ∀ b, B b → ∃ o, H b = some o ∧ IsMut o) :
    REnv ⟨B, B, fun _ => False, H, none⟩ (L2.start N vs) H (env0 ds N.length) := by
  have hl := h.length
  refine ⟨?_, fun i d e => ?_, fun i d e => ?_, fun i j d e a _ h1 _ _ _ => ?_, hm, fun b q => q, fun b o _ e => e, fun i m e => ?_, fun i v S e => ?_, fun i j m d a e _ _ _ => ?_⟩
  · unfold L2.start env0
    simp [hl]
  · unfold env0 at e
    by_cases hi : i < ds.length
    · rw [List.getElem?_append_left (by simpa using hi), List.getElem?_map, List.getElem?_eq_getElem hi] at e
      cases e
      obtain ⟨v, h1, h2⟩ := h.get (List.getElem?_eq_getElem hi)
      refine ⟨v, ?_, h2⟩
      unfold L2.start
      rw [List.getElem?_append_left (by simpa [hl] using hi), List.getElem?_map, h1]
      rfl
    · rw [List.getElem?_append_right (by simpa using hi), List.getElem?_replicate] at e
      split at e <;> cases e
  · unfold env0 at e
    by_cases hi : i < ds.length
    · rw [List.getElem?_append_left (by simpa using hi), List.getElem?_map, List.getElem?_eq_getElem hi] at e
      cases e
    · rw [List.getElem?_append_right (by simpa using hi), List.getElem?_replicate] at e
      split at e <;> cases e
  · unfold env0 at h1
    by_cases hi : i < ds.length
    · rw [List.getElem?_append_left (by simpa using hi), List.getElem?_map, List.getElem?_eq_getElem hi] at h1
      cases h1
    · rw [List.getElem?_append_right (by simpa using hi), List.getElem?_replicate] at h1
      split at h1 <;> cases h1
  · unfold env0 at e
    by_cases hi : i < ds.length
    · rw [List.getElem?_append_left (by simpa using hi), List.getElem?_map, List.getElem?_eq_getElem hi] at e
      cases e
    · rw [List.getElem?_append_right (by simpa using hi), List.getElem?_replicate] at e
      split at e <;> cases e
  · unfold env0 at e
    by_cases hi : i < ds.length
    · rw [List.getElem?_append_left (by simpa using hi), List.getElem?_map, List.getElem?_eq_getElem hi] at e
      cases e
    · rw [List.getElem?_append_right (by simpa using hi), List.getElem?_replicate] at e
      split at e <;> cases e
  · unfold env0 at e
    by_cases hi : i < ds.length
    · rw [List.getElem?_append_left (by simpa using hi), List.getElem?_map, List.getElem?_eq_getElem hi] at e
      cases e
    · rw [List.getElem?_append_right (by simpa using hi), List.getElem?_replicate] at e
      split at e <;> cases e
/-- the context of a def's body -/
abbrev bX (Pr : Program) (w : World) (K : PySem.W.Frag) (mg : Str → Option Value) (base : Heap) (N : List Str) (qual : Str) (scope : Scope) (f : Addr) (cd : Value) (A : Around) (outer : List Env) (s : Shared) (H : Hp) (E : XK) : Cx :=
  (cxOf CX0 Pr w K mg base N qual scope f cd A outer s H E).nox
section
variable {Pr : Program} {w : World} {K : PySem.W.Frag} {mg : Str → Option Value} {base : Heap} {x qual : Str} {params : Arguments} {body : List Stmt} {scope : Scope} {f : Addr} {fd : FuncData} {N ps : List Str} {k : Nat} {P : List PyData → PyData → Prop}
theorem fn_ok (F : FunD K x qual params body scope [] [] f fd) (S : FnScope N ps scope) (hlen : ∀ ds d, P ds d → ds.length = ps.length)
    (h : ∀ (cdv : Value) (A : Around) (outer : List Env) (s : Shared) (H : Hp) (E : XK), Room k (A.deeper (envOfC qual scope s.heap.objs.size f cdv)) → XG true (A.deeper (envOfC qual scope s.heap.objs.size f cdv)) N →
      ∀ ds d, P ds d → St (bX Pr w K mg base N qual scope f cdv A outer s H E) (env0 ds N.length) body (fun _ => d = .none) (fun d' _ => d' = d)) :
    FnOk Pr w K mg base CX0 (k + 1) f fd ps (spD P) := by
  refine F.ok S (fun vs H Q E ⟨B, ds, d, h1, _, hp, _⟩ => by rw [h1.length]; exact hlen ds d hp) fun cdv A outer s H vs Q E hr ⟨B, ds, d, h1, hm, hp, q⟩ => ?_
  have g : XG true (A.deeper (envOfC qual scope s.heap.objs.size f cdv)) N := ⟨rfl, by have := hr.un; omega, hr.hd, S.nd⟩
  refine ⟨_, PSs.nox (h cdv A outer s H E hr g ds d hp), ⟨B, B, fun _ => False, H, none⟩, renv0 h1 hm, fun c' σ' H' Γ' l e E' => ?_, fun c' σ' H' Γ' v d' l e E' hv => ?_⟩
  · subst e
    exact q _ H' (fun b o e => E'.keep b o (by rw [l.u]; exact id) (by rw [l.h0]; exact e)) .non
  · subst e
    exact q v H' (fun b o e => E'.keep b o (by rw [l.u]; exact id) (by rw [l.h0]; exact e)) hv
theorem fn_f (F : FunD K x qual params body scope [] [] f fd) (hF : FnOk Pr w K mg base CX0 k f fd ps (spD P)) (hm : mg x = some (.ref f))
    (hb : ∀ (kV doc pm : Value) (an : Option Addr) (cdv ct : Value) (us : List Value), us.length = ps.length → bindArgs (PySem.W.fnOf x qual params body scope .none kV doc pm an cdv ct) ⟨us, []⟩ = pure (ps.zip us)) : FnF Pr w K mg base x k ps P :=
  ⟨f, fd, hF, hm, F.kp, F.bindsN hb⟩
end
end DL

namespace DL
open PySem PySem.Spec PyProof.Rows L2

/-! ### typed data -/
/-- how a Lean value is held as data: no dict, not deep, == is = -/
structure Enc (α : Type) where
  f : α → PyData
  n : Nat
  plain : ∀ a, (f a).plain = true
  depth : ∀ a, (f a).depth ≤ n
  eqv : ∀ a b, PyData.eqv (f a) (f b) = true ↔ a = b
def sqd (b : Bool) (ds : List PyData) : PyData := match b with
  | true => .tuple ds
  | false => .list ds
section
variable {α β γ : Type}
theorem beq_true_iff {b : Bool} {p : Prop} [Decidable p] (h : b = true ↔ p) : b = decide p := by
  cases b
  · exact (decide_eq_false fun q => nomatch h.mpr q).symm
  · exact (decide_eq_true (h.mp rfl)).symm
theorem Enc.plainAll (e : Enc α) : ∀ xs : List α, PyData.plainAll (xs.map e.f) = true
  | [] => rfl
  | x :: xs => by rw [List.map_cons, PyData.plainAll, e.plain x, Enc.plainAll e xs]; rfl
theorem Enc.depthAll (e : Enc α) : ∀ xs : List α, PyData.depthAll (xs.map e.f) ≤ e.n
  | [] => Nat.zero_le _
  | x :: xs => by
    rw [List.map_cons, PyData.depthAll]
    exact Nat.max_le.mpr ⟨e.depth x, Enc.depthAll e xs⟩
theorem Enc.eqvAll (e : Enc α) : ∀ xs ys : List α, PyData.eqvAll (xs.map e.f) (ys.map e.f) = true ↔ xs = ys
  | [], [] => by simp [PyData.eqvAll]
  | [], _ :: _ => by simp [PyData.eqvAll]
  | _ :: _, [] => by simp [PyData.eqvAll]
  | x :: xs, y :: ys => by
    rw [List.map_cons, List.map_cons, PyData.eqvAll, Bool.and_eq_true, e.eqv x y, Enc.eqvAll e xs ys, List.cons.injEq]
def eN : Enc Str := ⟨.str, 0, fun _ => rfl, fun _ => Nat.le_refl _, fun a b => by simp [PyData.eqv]⟩
def eI : Enc Int := ⟨.int, 0, fun _ => rfl, fun _ => Nat.le_refl _, fun a b => by simp [PyData.eqv]⟩
def eB : Enc Bool := ⟨.bool, 0, fun _ => rfl, fun _ => Nat.le_refl _, fun a b => by simp [PyData.eqv]⟩
def eU : Enc Unit := ⟨fun _ => .none, 0, fun _ => rfl, fun _ => Nat.le_refl _, fun a b => by simp [PyData.eqv]⟩
def eT (e : Enc α) : Enc (List α) := ⟨fun xs => .tuple (xs.map e.f), e.n + 1, fun xs => by simp only [PyData.plain]; exact e.plainAll xs, fun xs => by simp only [PyData.depth]; exact Nat.succ_le_succ (e.depthAll xs),
  fun a b => by simp only [PyData.eqv]; exact e.eqvAll a b⟩
def eL (e : Enc α) : Enc (List α) := ⟨fun xs => .list (xs.map e.f), e.n + 1, fun xs => by simp only [PyData.plain]; exact e.plainAll xs, fun xs => by simp only [PyData.depth]; exact Nat.succ_le_succ (e.depthAll xs),
  fun a b => by simp only [PyData.eqv]; exact e.eqvAll a b⟩
def eS (b : Bool) (e : Enc α) : Enc (List α) := ⟨fun xs => sqd b (xs.map e.f), e.n + 1, fun xs => by cases b <;> (simp only [sqd, PyData.plain]; exact e.plainAll xs), fun xs => by cases b <;> (simp only [sqd, PyData.depth]; exact Nat.succ_le_succ (e.depthAll xs)),
  fun x y => by cases b <;> (simp only [sqd, PyData.eqv]; exact e.eqvAll x y)⟩
def eP (e : Enc α) (e2 : Enc β) : Enc (α × β) := ⟨fun p => .tuple [e.f p.1, e2.f p.2], max e.n e2.n + 1, fun p => by simp only [PyData.plain, PyData.plainAll, e.plain, e2.plain, Bool.and_self],
  fun p => by
    simp only [PyData.depth, PyData.depthAll]
    refine Nat.succ_le_succ (Nat.max_le.mpr ⟨Nat.le_trans (e.depth p.1) (Nat.le_max_left _ _), Nat.max_le.mpr ⟨Nat.le_trans (e2.depth p.2) (Nat.le_max_right _ _), Nat.zero_le _⟩⟩),
  fun a b => by
    simp only [PyData.eqv, PyData.eqvAll, Bool.and_eq_true, Bool.and_true, e.eqv, e2.eqv]
    exact Prod.ext_iff.symm⟩
def eP3 (e : Enc α) (e2 : Enc β) (e3 : Enc γ) : Enc (α × β × γ) := ⟨fun p => .tuple [e.f p.1, e2.f p.2.1, e3.f p.2.2], max e.n (max e2.n e3.n) + 1, fun p => by simp only [PyData.plain, PyData.plainAll, e.plain, e2.plain, e3.plain, Bool.and_self],
  fun p => by
    simp only [PyData.depth, PyData.depthAll]
    have h1 := e.depth p.1
    have h2 := e2.depth p.2.1
    have h3 := e3.depth p.2.2
    omega,
  fun a b => by
    simp only [PyData.eqv, PyData.eqvAll, Bool.and_eq_true, Bool.and_true, e.eqv, e2.eqv, e3.eqv]
    constructor
    · intro ⟨h1, h2, h3⟩
      exact Prod.ext h1 (Prod.ext h2 h3)
    · intro h
      rw [h]
      exact ⟨rfl, rfl, rfl⟩⟩
theorem Enc.small (e : Enc α) (a : α) (h : e.n ≤ 40) : DL.small (e.f a) = true := small_iff.mpr ⟨e.plain a, Nat.le_trans (e.depth a) h⟩
theorem Enc.smallAll (e : Enc α) (xs : List α) (h : e.n ≤ 40) : DL.smallAll (xs.map e.f) = true := smallAll_iff.mpr ⟨e.plainAll xs, Nat.le_trans (e.depthAll xs) h⟩
theorem sqS (b : Bool) (ds : List PyData) : isSeq (sqd b ds) ds := by cases b; exact .inl rfl; exact .inr rfl
theorem sqeT (e : Enc α) (xs : List α) : isSeq ((eT e).f xs) (xs.map e.f) := .inr rfl
theorem sqeL (e : Enc α) (xs : List α) : isSeq ((eL e).f xs) (xs.map e.f) := .inl rfl
theorem sqeS (b : Bool) (e : Enc α) (xs : List α) : isSeq ((eS b e).f xs) (xs.map e.f) := sqS b _
theorem sqT (ds : List PyData) : isSeq (.tuple ds) ds := .inr rfl
theorem sqL (ds : List PyData) : isSeq (.list ds) ds := .inl rfl
theorem Enc.any_eqv (e : Enc α) [DecidableEq α] (x : α) : ∀ xs : List α, ((xs.map e.f).any fun z => PyData.eqv z (e.f x)) = decide (x ∈ xs)
  | [] => by simp
  | y :: ys => by
    rw [List.map_cons, List.any_cons, Enc.any_eqv e x ys, beq_true_iff (e.eqv y x), ← Bool.decide_or]
    exact decide_eq_decide.mpr (by rw [List.mem_cons]; exact or_congr eq_comm Iff.rfl)
end
section
variable {X : Cx} {bz : Bool} {Γ : DEnv} {a b e1 e2 elt tg iter : Expr} {es : List Expr} {pos p : Pos} {α β γ : Type} {ss : List Stmt} {s : Stmt} {N : DEnv → Prop} {R : PyData → DEnv → Prop}
theorem any_mem (e : Enc α) (x : α) (xs : List α) [D : Decidable (x ∈ xs)] : ((xs.map e.f).any fun z => PyData.eqv z (e.f x)) = decide (x ∈ xs) := by
  letI : DecidableEq α := fun _ _ => Classical.propDecidable _
  rw [e.any_eqv]
  exact decide_eq_decide.mpr Iff.rfl
theorem t_eq (e : Enc α) {x y : α} [Decidable (x = y)] (g : XG X.calm X.A X.N) (ha : Ev bz X Γ a (e.f x)) (hb : Ev bz X Γ b (e.f y)) (hn : e.n ≤ 40 := by exact Nat.le_of_ble_eq_true rfl) : Cv bz X Γ .Eq a b (eB.f (decide (x = y))) := by
  have := cv_eq g ha hb (e.small x hn) (e.small y hn)
  rw [beq_true_iff (e.eqv x y)] at this
  exact this
theorem t_ne (e : Enc α) {x y : α} [Decidable (x = y)] (g : XG X.calm X.A X.N) (ha : Ev bz X Γ a (e.f x)) (hb : Ev bz X Γ b (e.f y)) (hn : e.n ≤ 40 := by exact Nat.le_of_ble_eq_true rfl) : Cv bz X Γ .NotEq a b (eB.f (!decide (x = y))) := by
  have := cv_ne g ha hb (e.small x hn) (e.small y hn)
  rw [beq_true_iff (e.eqv x y)] at this
  exact this
theorem t_in (e : Enc α) {x : α} {xs : List α} [Decidable (x ∈ xs)] {d : PyData} (g : XG X.calm X.A X.N) (ha : Ev bz X Γ a (e.f x)) (hb : Ev bz X Γ b d) (hs : isSeq d (xs.map e.f)) (hn : e.n ≤ 40 := by exact Nat.le_of_ble_eq_true rfl) : Cv bz X Γ .In a b (eB.f (decide (x ∈ xs))) := by
  have := cv_in g ha hb ⟨hs, e.small x hn, e.smallAll xs hn⟩
  rw [any_mem] at this
  exact this
theorem t_notIn (e : Enc α) {x : α} {xs : List α} [Decidable (x ∈ xs)] {d : PyData} (g : XG X.calm X.A X.N) (ha : Ev bz X Γ a (e.f x)) (hb : Ev bz X Γ b d) (hs : isSeq d (xs.map e.f)) (hn : e.n ≤ 40 := by exact Nat.le_of_ble_eq_true rfl) : Cv bz X Γ .NotIn a b (eB.f (!decide (x ∈ xs))) := by
  have := cv_notIn g ha hb ⟨hs, e.small x hn, e.smallAll xs hn⟩
  rw [any_mem] at this
  exact this
/-- a comprehension -/
theorem b_lc {own : List (Str × Nat)} {scope : Scope} {ifs : List Expr} {gt : TG} (ei : Enc α) (eo : Enc β) (xs : List α) (q : α → Bool) (r : α → β) (Γb : α → DEnv) (g : XG X.calm X.A X.N)
    (hi : Ei bz X tg Γ iter (xs.map ei.f)) (ok : BlkOk X.N X.env.scope scope own)
    (hg : ∀ (s : Shared) (H : Hp) (C : Addr) (cl : List (Str × Addr)) (fp : List Addr), PG (X.blk s H scope (compEnvC scope cl C X.env) fp) tg gt)
    (hbd : ∀ x ∈ xs, Bd (own.map (·.2)) gt (wipG Γ (own.map (·.2))) (ei.f x) (Γb x))
    (ht : ∀ (s : Shared) (H : Hp) (C : Addr) (cl : List (Str × Addr)) (fp : List Addr), ∀ x ∈ xs, Tsv (X.blk s H scope (compEnvC scope cl C X.env) fp) (Γb x) ifs (q x))
    (he : ∀ (s : Shared) (H : Hp) (C : Addr) (cl : List (Str × Addr)) (fp : List Addr), ∀ x ∈ xs, q x = true → Ev bz (X.blk s H scope (compEnvC scope cl C X.env) fp) (Γb x) elt (eo.f (r x)))
    (hs : ∀ x, foldedSetIterable iter X.env x = pure x := by intro _; rfl) :
    LcB bz X Γ elt tg iter ifs scope ((eL eo).f ((xs.filter q).map r)) := by
  have := lc_b own g xs ei.f q (fun x => eo.f (r x)) Γb hi ok hg hbd ht he hs
  show LcB bz X Γ elt tg iter ifs scope (.list (((xs.filter q).map r).map eo.f))
  rw [List.map_map]
  exact this
/-- a name is given a value; it is known by an equation -/
theorem st_let {i : Nat} (e : Enc α) (x : α) (h : S1 X Γ s (fun G => G = Γ.set i (.val (e.f x))) R) (hs : ∀ v, v = x → St X (Γ.set i (.val (e.f v))) ss N R) : St X Γ (s :: ss) N R := st_to h (hs x rfl)
end
end DL

namespace DL
open PySem PySem.Spec PyProof.Rows L2

/-! ### drawing: the urn at slot i, at most c draws -/
abbrev setU (Γ : DEnv) (i m : Nat) : DEnv := Γ.set i (.urn m)
def big : Nat := 1000000000
/-- all but the urn is kept -/
def Uh (c : Ct) (H H' : Hp) : Prop := ∀ b o, c.ua ≠ some b → H b = some o → H' b = some o
theorem Uh.same {c : Ct} {H H' : Hp} (s : Same H H') : Uh c H H' := fun b o _ e => s b o e
theorem Uh.trans {c : Ct} {H H1 H2 : Hp} (x : Uh c H H1) (y : Uh c H1 H2) : Uh c H H2 := fun b o h e => y b o h (x b o h e)
def UrnC (c : Ct) (H : Hp) (m : Nat) : Prop := ∀ a, c.ua = some a → UrnAt H a m
theorem UrnAt.up {H : Hp} {a : Addr} {m m' : Nat} (h : UrnAt H a m) (k : m ≤ m') : UrnAt H a m' := let ⟨x, y, z, e, q1, q2, q3⟩ := h; ⟨x, y, z, e, q1, by omega, q3⟩
section
variable {c : Ct} {σ : L2.St} {H H' : Hp} {Γ Γ' : DEnv} {i m m' : Nat}
theorem setU_at (hi : i < Γ.length) : (setU Γ i m)[i]? = some (.urn m) := List.getElem?_set_self hi
/-- known less -/
theorem REnv.weak (R : REnv c σ H Γ) (hl : Γ'.length = Γ.length) (hv : ∀ (j : Nat) (d : PyData), Γ'[j]? = some (Slot.val d) → Γ[j]? = some (Slot.val d)) (ho : ∀ (j : Nat) (d : PyData), Γ'[j]? = some (Slot.own d) → Γ[j]? = some (Slot.own d)) (hu : ∀ (j m : Nat), Γ'[j]? = some (Slot.urn m) → ∃ m', m' ≤ m ∧ Γ[j]? = some (Slot.urn m')) (hr : ∀ (j : Nat) (v : V) (S : Hp → Prop), Γ'[j]? = some (Slot.raw v S) → Γ[j]? = some (Slot.raw v S)) : REnv c σ H Γ' where
  raw := fun j v S e => R.raw j v S (hr j v S e)
  len := by rw [R.len, hl]
  val := fun j d e => R.val j d (hv j d e)
  own := fun j d e => R.own j d (ho j d e)
  sep := fun j k d e a hjk h1 h2 => R.sep j k d e a hjk (ho j d h1) (ho k e h2)
  muta := R.muta
  sub := R.sub
  keep := R.keep
  urn := fun j m e => by
    obtain ⟨m', hm, e'⟩ := hu j m e
    obtain ⟨a, h0, h1, h2, h3, h4, h5⟩ := R.urn j m' e'
    exact ⟨a, h0, h1, h2, h3, h4, h5.up hm⟩
  usep := fun j k m d a h1 h2 => by
    obtain ⟨m', hm, e'⟩ := hu k m h2
    exact R.usep j k m' d a (ho j d h1) e'
theorem set_other {i j : Nat} {s t : Slot} {Γ : DEnv} (h : (Γ.set i s)[j]? = some t) (ne : s ≠ t) : i ≠ j ∧ Γ[j]? = some t := by
  by_cases hij : i = j
  · subst hij
    by_cases hl : i < Γ.length
    · rw [List.getElem?_set_self hl] at h
      exact absurd (Option.some.inj h) ne
    · rw [List.getElem?_eq_none (by simpa using hl)] at h
      cases h
  · rw [List.getElem?_set_ne hij] at h
    exact ⟨hij, h⟩
theorem REnv.urnUp (R : REnv c σ H (setU Γ i m)) (k : m ≤ m') : REnv c σ H (setU Γ i m') := by
  refine R.weak (by simp [setU]) (fun j d e => ?_) (fun j d e => ?_) (fun j n e => ?_) fun j v S e => ?_
  · obtain ⟨h1, h2⟩ := set_other e nofun
    exact (List.getElem?_set_ne h1).trans h2
  · obtain ⟨h1, h2⟩ := set_other e nofun
    exact (List.getElem?_set_ne h1).trans h2
  · by_cases hij : i = j
    · subst hij
      by_cases hl : i < Γ.length
      · unfold setU at e
        rw [List.getElem?_set_self hl] at e
        cases e
        exact ⟨m, k, List.getElem?_set_self hl⟩
      · unfold setU at e
        rw [List.getElem?_eq_none (by simpa using hl)] at e
        cases e
    · unfold setU at e ⊢
      rw [List.getElem?_set_ne hij] at e
      exact ⟨n, Nat.le_refl _, by rw [List.getElem?_set_ne hij]; exact e⟩
  · obtain ⟨h1, h2⟩ := set_other e nofun
    exact (List.getElem?_set_ne h1).trans h2
/-- draws were made -/
theorem REnv.drawn (R : REnv c σ H (setU Γ i m)) (hi : i < Γ.length) (one : ∀ j n, Γ[j]? = some (Slot.urn n) → j = i) (u : Uh c H H') (ur : UrnC c H' m') : REnv c σ H' (setU Γ i m') ∧ Le c c H H' := by
  obtain ⟨a, h0, h1, h2, h3, h4, x, y, z, h5, h6⟩ := R.urn i m (setU_at hi)
  have ne : ∀ b, b ≠ a → c.ua ≠ some b := fun b hb q => by
    rw [h0] at q
    cases q
    exact hb rfl
  have mv : ∀ b o, (¬ c.B b ∨ ¬ IsMut o) → H b = some o → H' b = some o := fun b o q e => u b o (ne b fun z => by
    subst z
    rcases q with q | q
    · exact q h2
    · rw [h5] at e
      cases e
      exact q trivial) e
  refine ⟨⟨by rw [R.len]; simp [setU], fun j d e => ?_, fun j d e => ?_, fun j k d e a' hjk e1 e2 => ?_, fun b hb => ?_, R.sub, fun b o hu e => ?_, fun j n e => ?_, fun j v S e => ?_, fun j k n d a' e1 e2 => ?_⟩, ⟨rfl, rfl, rfl, fun _ h => h, fun _ h => .inl h, mv, fun _ h => h⟩⟩
  · obtain ⟨q1, q2⟩ := set_other e nofun
    obtain ⟨v, hv, hd⟩ := R.val j d ((List.getElem?_set_ne q1).trans q2)
    exact ⟨v, hv, hd.mv mv⟩
  · obtain ⟨q1, q2⟩ := set_other e nofun
    have e' := (List.getElem?_set_ne (a := Slot.urn m) q1).trans q2
    obtain ⟨b, g1, g2, g3, g4, g5⟩ := R.own j d e'
    have nb : b ≠ a := fun z => by
      subst z
      exact R.usep j i m d b e' (setU_at hi) g1 h0
    refine ⟨b, g1, g2, g3, g4, ?_⟩
    cases g5 with
    | lst w1 w2 => exact .lst ⟨w1.1, u _ _ (ne b nb) w1.2⟩ (Db.mvAll mv _ _ w2)
    | dK w1 w2 => exact .dK (u _ _ (ne b nb) w1) (Db.mvAll mv _ _ w2)
    | dT w1 w2 => exact .dT (u _ _ (ne b nb) w1) (Db.mvAll mv _ _ w2)
  · obtain ⟨q1, q2⟩ := set_other e1 nofun
    obtain ⟨q3, q4⟩ := set_other e2 nofun
    exact R.sep j k d e a' hjk ((List.getElem?_set_ne q1).trans q2) ((List.getElem?_set_ne q3).trans q4)
  · obtain ⟨o, e, mo⟩ := R.muta b hb
    by_cases hba : b = a
    · subst hba
      obtain ⟨x', y', z', w, _⟩ := ur b h0
      exact ⟨_, w, trivial⟩
    · exact ⟨o, u b o (ne b hba) e, mo⟩
  · have nb : b ≠ a := fun z => by
      subst z
      rcases h4 with h4 | h4
      · exact hu h4
      · rw [h4] at e
        cases e
    exact u b o (ne b nb) (R.keep b o hu e)
  · by_cases hij : i = j
    · subst hij
      have hn : n = m' := by
        rw [setU_at hi] at e
        cases e
        rfl
      subst hn
      exact ⟨a, h0, h1, h2, h3, h4, ur a h0⟩
    · unfold setU at e
      rw [List.getElem?_set_ne hij] at e
      exact absurd (one j n e).symm hij
  · obtain ⟨q1, q2⟩ := set_other e nofun
    obtain ⟨g1, g2⟩ := R.raw j v S ((List.getElem?_set_ne q1).trans q2)
    exact ⟨g1, g2.mv mv⟩
  · obtain ⟨q1, q2⟩ := set_other e1 nofun
    intro e3 e4
    exact R.usep j i m d a' ((List.getElem?_set_ne q1).trans q2) (setU_at hi) e3 e4
end
theorem PI_ex {X : Cx} {tg e : Expr} {ι : Sort _} {φ : ι → Prop} {t : ι → TI} (h : ∀ p, φ p → PI X tg e (t p)) : PI X tg e (fun σ H Q => ∃ p, φ p ∧ t p σ H Q) := ⟨fun pins s σ H Q I ⟨p, hp, hq⟩ => (h p hp).run pins s σ H Q I hq⟩
theorem PA_ex {X : Cx} {e : List Expr} {ι : Sort _} {φ : ι → Prop} {t : ι → TA} (h : ∀ p, φ p → PA X e (t p)) : PA X e (fun σ H Q => ∃ p, φ p ∧ t p σ H Q) := ⟨fun w pins s σ H Q I ⟨p, hp, hq⟩ => (h p hp).run w pins s σ H Q I hq⟩
/-- the one urn of an environment -/
structure OneU (Γ : DEnv) (i : Nat) : Prop where
  lt : i < Γ.length
  one : ∀ j n, Γ[j]? = some (Slot.urn n) → j = i
def oneU (Γ : DEnv) (i : Nat) : Bool := match Γ with
  | [] => false
  | s :: Γ => match i with
    | 0 => Γ.all fun s => match s with | .urn _ => false | _ => true
    | i + 1 => (match s with | .urn _ => false | _ => true) && oneU Γ i
theorem OneU.of : ∀ {Γ : DEnv} {i : Nat}, oneU Γ i = true → OneU Γ i
  | [], _, h => by simp [oneU] at h
  | s :: Γ, 0, h => by
    simp only [oneU, List.all_eq_true] at h
    refine ⟨by simp, fun j n e => ?_⟩
    cases j with
    | zero => rfl
    | succ j =>
      have := h _ (List.mem_of_getElem? (by simpa using e))
      simp at this
  | s :: Γ, i + 1, h => by
    simp only [oneU, Bool.and_eq_true] at h
    have ih := OneU.of h.2
    refine ⟨by simp; exact ih.lt, fun j n e => ?_⟩
    cases j with
    | zero =>
      simp at e
      subst e
      simp at h
    | succ j =>
      rw [ih.one j n (by simpa using e)]
/-- what draws do: from m to m + c -/
structure Dr (ct : Ct) (σ : L2.St) (Γ : DEnv) (i m c : Nat) (H H' : Hp) : Prop where
  uh : Uh ct H H'
  ur : UrnC ct H' (m + c)
def tEj (i c : Nat) (Γ : DEnv) (P : PyData → Prop) : TE := fun σ H Q => ∃ (ct : Ct) (m : Nat), m + c ≤ big ∧ OneU Γ i ∧ REnv ct σ H (setU Γ i m) ∧ ∀ v d H', Uh ct H H' → UrnC ct H' (m + c) → P d → Db ct.B H' v d → Q v H'
abbrev Ej (i c : Nat) (X : Cx) (Γ : DEnv) (e : Expr) (P : PyData → Prop) : Prop := PE X e (tEj i c Γ P)
def tTj (i c : Nat) (Γ : DEnv) (P : Bool → Prop) : TT := fun σ H Q => ∃ (ct : Ct) (m : Nat), m + c ≤ big ∧ OneU Γ i ∧ REnv ct σ H (setU Γ i m) ∧ ∀ b H', Uh ct H H' → UrnC ct H' (m + c) → P b → Q b H'
abbrev Tj (i c : Nat) (X : Cx) (Γ : DEnv) (e : Expr) (P : Bool → Prop) : Prop := PT X e (tTj i c Γ P)
def tAj (i c : Nat) (Γ : DEnv) (P : List PyData → Prop) : TA := fun σ H Q => ∃ (ct : Ct) (m : Nat), m + c ≤ big ∧ OneU Γ i ∧ REnv ct σ H (setU Γ i m) ∧ ∀ vs ds H', Uh ct H H' → UrnC ct H' (m + c) → P ds → DbAll ct.B H' vs ds → Q vs H'
abbrev Aj (i c : Nat) (X : Cx) (Γ : DEnv) (e : List Expr) (P : List PyData → Prop) : Prop := PA X e (tAj i c Γ P)
section
variable {X : Cx} {Γ : DEnv} {a b e e2 t elt tg iter : Expr} {es : List Expr} {pos p : Pos} {i c c1 c2 : Nat} {d : PyData} {P P1 P2 : PyData → Prop}
theorem urn0 {ct : Ct} {σ : L2.St} {H H' : Hp} {m : Nat} (R : REnv ct σ H (setU Γ i m)) (o : OneU Γ i) (s : Same H H') : UrnC ct H' (m + 0) := fun a h => by
  obtain ⟨a', h0, _, _, _, _, h5⟩ := R.urn i m (setU_at o.lt)
  rw [h0] at h
  cases h
  exact h5.same s
theorem ej_pure (h : ∀ m, Ev false X (setU Γ i m) e d) : Ej i 0 X Γ e (fun x => x = d) :=
  PE_mono (PE_ex (φ := fun _ : Nat => True) fun m _ => h m) fun σ H Q ⟨ct, m, hm, o, R, k⟩ => ⟨m, trivial, ct, R, fun v H' s hd => k v d H' (Uh.same s) (urn0 R o s) rfl hd⟩
theorem ej_mono (h : Ej i c1 X Γ e P1) (hc : c1 ≤ c) (hp : ∀ d, P1 d → P d) : Ej i c X Γ e P :=
  PE_mono h fun σ H Q ⟨ct, m, hm, o, R, k⟩ => ⟨ct, m, by omega, o, R, fun v d H' u w pd hd => k v d H' u (fun a ha => (w a ha).up (by omega)) (hp d pd) hd⟩
theorem ej_op {op : Operator} {r : R2} (ho : OpR X (binaryOp op) r) (hr : ∀ (B : Addr → Prop) v u H Q d1 d2, Db B H v d1 → Db B H u d2 → (∀ q, B q → H q ≠ none) → P1 d1 → P2 d2 → (∀ w H' d, Same H H' → P d → Db B H' w d → Q w H') → r v u H Q)
    (ha : Ej i c1 X Γ a P1) (hb : Ej i c2 X Γ b P2) : Ej i (c1 + c2) X Γ (.BinOp a op b pos) P :=
  PE_mono (pe_op ho ha hb) fun σ H Q ⟨ct, m, hm, o, R, k⟩ => ⟨ct, m, by omega, o, R, fun v d1 H1 u1 w1 p1 h1 => by
    obtain ⟨R1, l1⟩ := R.drawn o.lt o.one u1 w1
    refine ⟨ct, m + c1, by omega, o, R1, fun u d2 H2 u2 w2 p2 h2 => ?_⟩
    obtain ⟨R2, l2⟩ := R1.drawn o.lt o.one u2 w2
    refine hr ct.B v u H2 Q d1 d2 (l2.db h1) h2 (fun q hq => by obtain ⟨o, e, _⟩ := R2.muta q hq; rw [e]; exact nofun) p1 p2 fun w H' d s pd hd => k w d H' ((u1.trans u2).trans (Uh.same s)) (fun a ha => ?_) pd hd
    rw [← Nat.add_assoc]
    exact (w2 a ha).same s⟩
/-- ints -/
abbrev Ij (i c : Nat) (X : Cx) (Γ : DEnv) (e : Expr) (P : Int → Prop) : Prop := Ej i c X Γ e (fun d => ∃ n, P n ∧ d = .int n)
variable {Q1 Q2 Q : Int → Prop}
theorem ij_pure {n : Int} (h : ∀ m, Ev false X (setU Γ i m) e (.int n)) (hq : Q n) : Ij i 0 X Γ e Q := ej_mono (ej_pure h) (Nat.le_refl _) fun d e => ⟨n, hq, e⟩
theorem ij_add (ha : Ij i c1 X Γ a Q1) (hb : Ij i c2 X Γ b Q2) (h : ∀ x y, Q1 x → Q2 y → Q (x + y)) : Ij i (c1 + c2) X Γ (.BinOp a .Add b pos) Q :=
  ej_op op_add (fun B v u H K d1 d2 h1 h2 _ ⟨x, q1, e1⟩ ⟨y, q2, e2⟩ k => by subst e1; subst e2; cases h1; cases h2; exact ⟨_, _, rfl, rfl, k _ H _ (Same.refl H) ⟨_, h x y q1 q2, rfl⟩ (.int _)⟩) ha hb
theorem ij_mul (ha : Ij i c1 X Γ a Q1) (hb : Ij i c2 X Γ b Q2) (h : ∀ x y, Q1 x → Q2 y → CMul x y ∧ Q (x * y)) : Ij i (c1 + c2) X Γ (.BinOp a .Mult b pos) Q :=
  ej_op op_mul (fun B v u H K d1 d2 h1 h2 _ ⟨x, q1, e1⟩ ⟨y, q2, e2⟩ k => by subst e1; subst e2; cases h1; cases h2; exact ⟨_, _, rfl, rfl, (h x y q1 q2).1, k _ H _ (Same.refl H) ⟨_, (h x y q1 q2).2, rfl⟩ (.int _)⟩) ha hb
theorem ij_sub (ha : Ij i c1 X Γ a Q1) (hb : Ij i c2 X Γ b Q2) (h : ∀ x y, Q1 x → Q2 y → Q (x - y)) : Ij i (c1 + c2) X Γ (.BinOp a .Sub b pos) Q :=
  ej_op op_sub (fun B v u H K d1 d2 h1 h2 _ ⟨x, q1, e1⟩ ⟨y, q2, e2⟩ k => by subst e1; subst e2; cases h1; cases h2; exact ⟨_, _, rfl, rfl, k _ H _ (Same.refl H) ⟨_, h x y q1 q2, rfl⟩ (.int _)⟩) ha hb
theorem ij_mod (ha : Ij i c1 X Γ a Q1) (hb : Ij i c2 X Γ b Q2) (h : ∀ x y, Q1 x → Q2 y → 0 < y ∧ Q (x % y)) : Ij i (c1 + c2) X Γ (.BinOp a .Mod b pos) Q :=
  ej_op op_mod (fun B v u H K d1 d2 h1 h2 _ ⟨x, q1, e1⟩ ⟨y, q2, e2⟩ k => by subst e1; subst e2; cases h1; cases h2; exact ⟨_, _, rfl, rfl, (h x y q1 q2).1, k _ H _ (Same.refl H) ⟨_, (h x y q1 q2).2, rfl⟩ (.int _)⟩) ha hb
theorem ij_div (ha : Ij i c1 X Γ a Q1) (hb : Ij i c2 X Γ b Q2) (h : ∀ x y, Q1 x → Q2 y → CDiv x y ∧ Q (x / y)) : Ij i (c1 + c2) X Γ (.BinOp a .FloorDiv b pos) Q :=
  ej_op op_fdiv (fun B v u H K d1 d2 h1 h2 _ ⟨x, q1, e1⟩ ⟨y, q2, e2⟩ k => by subst e1; subst e2; cases h1; cases h2; exact ⟨_, _, rfl, rfl, (h x y q1 q2).1, k _ H _ (Same.refl H) ⟨_, (h x y q1 q2).2, rfl⟩ (.int _)⟩) ha hb
/-- what is in the urn -/
theorem ij_urn {x : Str} {n : Nat} {kk p1 p2} (hn : n < 3) (hN : X.N[i]? = some x := by rfl) (hv : Vis X.env.scope x := by first | exact Or.inl rfl | exact Or.inr (Or.inl rfl) | exact Or.inr (Or.inr rfl)) (hd : (x == ("__debug__" : Str)) = false := by decide)
    (hcd : (x == ("__classdict__" : Str)) = false := by decide) : Ij i 0 X Γ (.Subscript (.Name x p1) (.Constant (.int n) kk p2) pos) (fun z => (n = 1 → -(2 ^ 62) < z ∧ z < 2 ^ 62) ∧ (n = 2 → 0 ≤ z ∧ z ≤ big)) :=
  PE_mono (pe_ix ix_list (pe_var hN hv hd hcd) pe_int (fun _ _ => rfl)) fun σ H Q ⟨ct, m, hm, o, R, k⟩ => by
    obtain ⟨a, h0, h1, h2, h3, h4, w0, w1, w2, h5, h6, h7, h8, h9⟩ := R.urn i m (setU_at o.lt)
    have hs : SqL X.K H a [.int w0, .int w1, .int w2] := SqL.of h5
    have u0 := urn0 R o (Same.refl H)
    refine ⟨_, h1, ?_⟩
    rcases n with _ | _ | _ | n
    · exact ⟨a, _, _, .int w0, rfl, rfl, hs, rfl, k _ _ H (Uh.same (Same.refl H)) u0 ⟨w0, ⟨fun e => (nomatch e), fun e => (nomatch e)⟩, rfl⟩ (.int _)⟩
    · exact ⟨a, _, _, .int w1, rfl, rfl, hs, rfl, k _ _ H (Uh.same (Same.refl H)) u0 ⟨w1, ⟨fun _ => ⟨h8, h9⟩, fun e => (nomatch e)⟩, rfl⟩ (.int _)⟩
    · exact ⟨a, _, _, .int w2, rfl, rfl, hs, rfl, k _ _ H (Uh.same (Same.refl H)) u0 ⟨w2, ⟨fun e => (nomatch e), fun _ => ⟨h6, by omega⟩⟩, rfl⟩ (.int _)⟩
    · omega
/-! ### tests -/
theorem tj_of {op : CmpOp} {p : Int → Int → Bool} {tc : TE → TE → TE} (hc : PC X op a b (tc (tEj i c1 Γ (fun d => ∃ n, Q1 n ∧ d = .int n)) (tEj i c2 Γ (fun d => ∃ n, Q2 n ∧ d = .int n))))
    (ht : ∀ ta tb σ H K, (ta σ H fun v H1 => tb σ H1 fun u H2 => ∃ x y, v = .int x ∧ u = .int y ∧ K (.bl (p x y)) H2) → tc ta tb σ H K) (PB : Bool → Prop) (h : ∀ x y, Q1 x → Q2 y → PB (p x y))
    (hm : behindInMarks op b = false := by first | exact nobehind _ (by decide) (by decide) | rfl) : Tj i (c1 + c2) X Γ (.Compare a [op] [b] pos) PB :=
  PT_mono (pt_cmp hc hm) fun σ H K ⟨ct, m, hm, o, R, k⟩ => ht _ _ _ _ _ ⟨ct, m, by omega, o, R, fun v d1 H1 u1 w1 ⟨x, q1, e1⟩ h1 => by
    obtain ⟨R1, l1⟩ := R.drawn o.lt o.one u1 w1
    refine ⟨ct, m + c1, by omega, o, R1, fun u d2 H2 u2 w2 ⟨y, q2, e2⟩ h2 => ?_⟩
    subst e1
    subst e2
    cases h1
    cases h2
    exact ⟨x, y, rfl, rfl, _, rfl, k _ H2 (u1.trans u2) (by rw [← Nat.add_assoc]; exact w2) (h x y q1 q2)⟩⟩
theorem tj_eq (ha : Ij i c1 X Γ a Q1) (hb : Ij i c2 X Γ b Q2) (PB : Bool → Prop) (h : ∀ x y, Q1 x → Q2 y → PB (x == y)) (hm : behindInMarks .Eq b = false := by first | exact nobehind _ (by decide) (by decide) | rfl) : Tj i (c1 + c2) X Γ (.Compare a [.Eq] [b] pos) PB :=
  tj_of (p := fun x y => x == y) (pc_eqI ha hb) (fun _ _ _ _ _ q => by
    simp only [Bool.beq_eq_decide_eq] at q
    exact q) PB h hm
theorem tj_gt (ha : Ij i c1 X Γ a Q1) (hb : Ij i c2 X Γ b Q2) (PB : Bool → Prop) (h : ∀ x y, Q1 x → Q2 y → PB (decide (y < x))) (hm : behindInMarks .Gt b = false := by first | exact nobehind _ (by decide) (by decide) | rfl) : Tj i (c1 + c2) X Γ (.Compare a [.Gt] [b] pos) PB :=
  tj_of (p := fun x y => decide (y < x)) (pc_gt ha hb) (fun _ _ _ _ _ q => q) PB h hm
end
end DL

namespace DL
open PySem PySem.Spec PyProof.Rows L2
abbrev Tsj (i c : Nat) (X : Cx) (Γ : DEnv) (ifs : List Expr) (P : Bool → Prop) : Prop := PTs X ifs (tTj i c Γ P)
section
variable {X : Cx} {Γ : DEnv} {a b e e2 t elt tg iter : Expr} {es : List Expr} {pos p : Pos} {i c c1 c2 : Nat} {d : PyData} {ds : List PyData} {P P1 P2 : PyData → Prop} {Ps : List PyData → Prop}
theorem tsj_one {PB : Bool → Prop} (h : Tj i c X Γ t PB) : Tsj i c X Γ [t] PB := pts_one h
theorem tsj_nil : Tsj i 0 X Γ [] (fun b => b = true) := ⟨fun pins s σ H Q I ⟨ct, m, hm, o, R, k⟩ => pts_nil.run pins s σ H Q I (k true H (Uh.same (Same.refl H)) (urn0 R o (Same.refl H)) rfl)⟩
theorem tj_pure {x : Bool} (h : ∀ m, Tv X (setU Γ i m) t x) : Tj i 0 X Γ t (fun b => b = x) :=
  PT_mono (PT_ex (φ := fun _ : Nat => True) fun m _ => h m) fun σ H Q ⟨ct, m, hm, o, R, k⟩ => ⟨m, trivial, ct, R, fun H' s => k x H' (Uh.same s) (urn0 R o s) rfl⟩
theorem tsj_pure {x : Bool} {ifs : List Expr} (h : ∀ m, Tsv X (setU Γ i m) ifs x) : Tsj i 0 X Γ ifs (fun b => b = x) :=
  ⟨fun pins s σ H Q I ⟨ct, m, hm, o, R, k⟩ => (h m).run pins s σ H Q I ⟨ct, R, fun H' s => k x H' (Uh.same s) (urn0 R o s) rfl⟩⟩
theorem aj_pure (h : ∀ m, Av false X (setU Γ i m) es ds) : Aj i 0 X Γ es (fun x => x = ds) :=
  PA_mono (PA_ex (φ := fun _ : Nat => True) fun m _ => h m) fun σ H Q ⟨ct, m, hm, o, R, k⟩ => ⟨m, trivial, ct, R, fun v H' s hd => k v ds H' (Uh.same s) (urn0 R o s) rfl hd⟩
theorem aj_nil : Aj i 0 X Γ [] (fun x => x = []) := aj_pure fun _ => av_nil
theorem aj_cons (ha : Ej i c1 X Γ e P1) (hr : Aj i c2 X Γ es Ps) (hs : starEach (e :: es) X.env = (false, eval e X.env) :: starEach es X.env := by rfl) : Aj i (c1 + c2) X Γ (e :: es) (fun ds => ∃ d ds', ds = d :: ds' ∧ P1 d ∧ Ps ds') :=
  PA_mono (pa_cons ha hr hs) fun σ H Q ⟨ct, m, hm, o, R, k⟩ => ⟨ct, m, by omega, o, R, fun v d H1 u1 w1 p1 h1 => by
    obtain ⟨R1, l1⟩ := R.drawn o.lt o.one u1 w1
    refine ⟨ct, m + c1, by omega, o, R1, fun vs ds H2 u2 w2 p2 h2 => ?_⟩
    obtain ⟨R2, l2⟩ := R1.drawn o.lt o.one u2 w2
    exact k _ _ H2 (u1.trans u2) (by rw [← Nat.add_assoc]; exact w2) ⟨d, ds, rfl, p1, p2⟩ (.cons (l2.db h1) h2)⟩
theorem ej_tup {x1} (h : Aj i c X Γ es Ps) (hp : ∀ ds, Ps ds → ds.length ≤ 1000000 ∧ P (.tuple ds)) : Ej i c X Γ (.Tuple es x1 pos) P :=
  PE_mono (pe_tupS h) fun σ H Q ⟨ct, m, hm, o, R, k⟩ => ⟨ct, m, hm, o, R, fun vs ds H1 u1 w1 p1 h1 => by
    obtain ⟨hl, pt⟩ := hp ds p1
    have z : vs.length ≤ sizeLine := by rw [h1.length]; exact sl_of hl
    exact ⟨z, fun q o ho hq => k _ _ _ (u1.trans (Uh.same (same_new hq _))) (fun a ha => (w1 a ha).same (same_new hq _)) pt (.tup (isT_new ho z) (h1.same (same_new hq _)))⟩⟩
theorem not_free {ct : Ct} {σ : L2.St} {H : Hp} (R : REnv ct σ H Γ) : ∀ b, ct.B b → H b ≠ none := fun b hb => by
  obtain ⟨o, e, _⟩ := R.muta b hb
  rw [e]
  exact nofun
theorem ej_call {id : String} {x : Str} {Pr : List PyData → PyData → Prop} (hc : CallR X (.builtin id) (rB Pr)) (hm : X.mg x = none) (ha : Aj i c X Γ (e :: es) Ps) (hp : ∀ ds, Ps ds → ∃ d, Pr ds d ∧ P d) (hg : Gl X x := by rfl) (hv : bootBuiltins x = some (.builtin id) := by decide +kernel)
    (hn : x ≠ "__name__" := by decide) (hdb : (x == ("__debug__" : Str)) = false := by decide)
    (he : starEach (e :: es) X.env = (false, eval e X.env) :: starEach es X.env := by rfl) (hpl : (backTo pos (starEach es X.env)).any (·.1) = false := by rfl) : Ej i c X Γ (.Call (.Name x p) (e :: es) [] pos) P :=
  PE_mono (pe_callB hc hg hm hv ha hn hdb he hpl) fun σ H Q ⟨ct, m, hm, o, R, k⟩ => ⟨ct, m, hm, o, R, fun vs ds H1 u1 w1 p1 h1 => by
    obtain ⟨d, pr, pd⟩ := hp ds p1
    exact ⟨ct.B, ds, d, h1, not_free (R.drawn o.lt o.one u1 w1).1, pr, fun v H2 s2 h2 => k v d H2 (u1.trans (Uh.same s2)) (fun a ha => (w1 a ha).same s2) pd h2⟩⟩
theorem ej_callT {T : String} {x : Str} {Pr : List PyData → PyData → Prop} (hc : CallR X (.type T) (rB Pr)) (hm : X.mg x = none) (ha : Aj i c X Γ (e :: es) Ps) (hp : ∀ ds, Ps ds → ∃ d, Pr ds d ∧ P d) (hg : Gl X x := by rfl) (hv : bootBuiltins x = some (.type T) := by decide +kernel)
    (hn : x ≠ "__name__" := by decide) (hdb : (x == ("__debug__" : Str)) = false := by decide)
    (he : starEach (e :: es) X.env = (false, eval e X.env) :: starEach es X.env := by rfl) (hpl : (backTo pos (starEach es X.env)).any (·.1) = false := by rfl) : Ej i c X Γ (.Call (.Name x p) (e :: es) [] pos) P :=
  PE_mono (pe_callTy hc hg hm hv ha hn hdb he hpl) fun σ H Q ⟨ct, m, hm, o, R, k⟩ => ⟨ct, m, hm, o, R, fun vs ds H1 u1 w1 p1 h1 => by
    obtain ⟨d, pr, pd⟩ := hp ds p1
    exact ⟨ct.B, ds, d, h1, not_free (R.drawn o.lt o.one u1 w1).1, pr, fun v H2 s2 h2 => k v d H2 (u1.trans (Uh.same s2)) (fun a ha => (w1 a ha).same s2) pd h2⟩⟩
/-- one argument -/
theorem ej_callT1 {T : String} {x : Str} {Pr : List PyData → PyData → Prop} (hc : CallR X (.type T) (rB Pr)) (hm : X.mg x = none) (ha : Ej i c X Γ e P1) (hp : ∀ d, P1 d → ∃ d', Pr [d] d' ∧ P d') (hg : Gl X x := by rfl) (hv : bootBuiltins x = some (.type T) := by decide +kernel)
    (hn : x ≠ "__name__" := by decide) (hdb : (x == ("__debug__" : Str)) = false := by decide)
    (he : starEach [e] X.env = (false, eval e X.env) :: starEach [] X.env := by rfl) (hpl : (backTo pos (starEach [] X.env)).any (·.1) = false := by rfl) : Ej i c X Γ (.Call (.Name x p) [e] [] pos) P :=
  ej_callT hc hm (aj_cons ha aj_nil he) (fun ds ⟨d, ds', h1, h2, h3⟩ => by subst h3; subst h1; exact hp d h2) hg hv hn hdb he hpl
theorem ej_if {PB : Bool → Prop} (ht : Tj i c1 X Γ t PB) (ha : PB true → Ej i c2 X Γ a P) (hb : PB false → Ej i c2 X Γ b P) : Ej i (c1 + c2) X Γ (.IfExp t a b pos) P := by
  have h1 : PE X a (fun σ H Q => PB true ∧ tEj i c2 Γ P σ H Q) := ⟨fun pins s σ H Q I ⟨p, h⟩ => (ha p).run pins s σ H Q I h⟩
  have h2 : PE X b (fun σ H Q => PB false ∧ tEj i c2 Γ P σ H Q) := ⟨fun pins s σ H Q I ⟨p, h⟩ => (hb p).run pins s σ H Q I h⟩
  refine PE_mono (pe_ifExp ht h1 h2) fun σ H Q ⟨ct, m, hm, o, R, k⟩ => ⟨ct, m, by omega, o, R, fun x H1 u1 w1 p1 => ?_⟩
  have R1 := (R.drawn o.lt o.one u1 w1).1
  have fin : tEj i c2 Γ P σ H1 Q := ⟨ct, m + c1, by omega, o, R1, fun v d H2 u2 w2 p2 h2 => k v d H2 (u1.trans u2) (by rw [← Nat.add_assoc]; exact w2) p2 h2⟩
  cases x
  · exact L2.iteF ⟨p1, fin⟩
  · exact L2.iteT ⟨p1, fin⟩
theorem ej_ix {Q1 : Int → Prop} (ha : Ej i c1 X Γ a P1) (hb : Ij i c2 X Γ b Q1) (h : ∀ d n, P1 d → Q1 n → ∃ ds d', isSeq d ds ∧ atI ds n = some d' ∧ P d') (hp : PlainIx b := by exact fun _ _ => rfl) : Ej i (c1 + c2) X Γ (.Subscript a b pos) P :=
  PE_mono (pe_ix (ix_list.or ix_tup) ha hb hp) fun σ H Q ⟨ct, m, hm, o, R, k⟩ => ⟨ct, m, by omega, o, R, fun v d1 H1 u1 w1 p1 h1 => by
    obtain ⟨R1, l1⟩ := R.drawn o.lt o.one u1 w1
    refine ⟨ct, m + c1, by omega, o, R1, fun u d2 H2 u2 w2 ⟨n, q1, e1⟩ h2 => ?_⟩
    obtain ⟨R2, l2⟩ := R1.drawn o.lt o.one u2 w2
    subst e1
    cases h2
    obtain ⟨ds, d', hs, hi, pd⟩ := h d1 n p1 q1
    obtain ⟨q, xs, rfl, r, hh⟩ := DbAll.of_seq (l2.db h1) hs
    obtain ⟨w, e1, e2⟩ := atI_db hh hi
    have fin := k w d' H2 (u1.trans u2) (by rw [← Nat.add_assoc]; exact w2) pd e2
    rcases r with r | r
    · exact .inr ⟨q, xs, n, w, rfl, rfl, r.sq, e1, fin⟩
    · exact .inl ⟨q, xs, n, w, rfl, rfl, r.sq, e1, fin⟩⟩
/-- a[:n] -/
theorem ej_cut {hi : Expr} {p2} {Q1 : Int → Prop} (ha : Ej i c1 X Γ a P1) (hu : Ij i c2 X Γ hi Q1) (h : ∀ d n, P1 d → Q1 n → ∃ ds, isSeq d ds ∧ P (asSeq d (cut ds none (some n)))) : Ej i (c1 + c2) X Γ (.Subscript a (.Slice none (some hi) none p2) pos) P :=
  PE_mono (pe_slice (sl_list.or sl_tupS) ha po_none (po_some hu)) fun σ H Q ⟨ct, m, hm, o, R, k⟩ => ⟨ct, m, by omega, o, R, fun v d1 H1 u1 w1 p1 h1 => by
    obtain ⟨R1, l1⟩ := R.drawn o.lt o.one u1 w1
    refine ⟨ct, m + c1, by omega, o, R1, fun u d2 H2 u2 w2 ⟨n, q1, e1⟩ h2 => ?_⟩
    obtain ⟨R2, l2⟩ := R1.drawn o.lt o.one u2 w2
    subst e1
    cases h2
    refine ⟨n, rfl, ?_⟩
    obtain ⟨ds, hs, pd⟩ := h d1 n p1 q1
    have h3 := l2.db h1
    have fin : ∀ v H', Same H2 H' → Db ct.B H' v (asSeq d1 (cut ds none (some n))) → Q v H' := fun v H' s hd => k v _ H' ((u1.trans u2).trans (Uh.same s)) (fun a ha => by rw [← Nat.add_assoc]; exact (w2 a ha).same s) pd hd
    rcases hs with rfl | rfl
    · cases h3 with
      | lst nb r h => exact .inl ⟨_, _, rfl, r.sq, fun q hq => fin _ _ (same_new hq _) (.lst (fun z => not_free R2 q z hq) (isL_new (cut_le _ _ r.1)) ((h.cut none (some n)).same (same_new hq _)))⟩
    · cases h3 with
      | tup r h => exact .inr ⟨_, _, rfl, r.sq, fun w => by
            rw [h.length] at w
            refine fin _ _ (Same.refl H2) ?_
            show Db _ _ _ (.tuple (cut ds none (some n)))
            rw [cut_whole w]
            exact .tup r h, fun _ q o ho hq => fin _ _ (same_new hq _) (.tup (isT_new ho (cut_le _ _ r.1)) ((h.cut none (some n)).same (same_new hq _)))⟩⟩
theorem ej_lc {α : Type} (own : List (Str × Nat)) (g : XG X.calm X.A X.N) {ifs : List Expr} {scope : Scope} {gt : TG} (xs : List α) (f : α → PyData) (Γb : α → DEnv) (q : α → Bool → Prop) (r : α → PyData → Prop) (J : Nat → List PyData → Prop)
    (hi : ∀ m, Ei false X tg (setU Γ i m) iter (xs.map f)) (ok : BlkOk X.N X.env.scope scope own)
    (hg : ∀ (s : Shared) (H : Hp) (C : Addr) (cl : List (Str × Addr)) (fp : List Addr), PG (X.blk s H scope (compEnvC scope cl C X.env) fp) tg gt)
    (hbd : ∀ m, ∀ x ∈ xs, Bd (own.map (·.2)) gt (wipG (setU Γ i m) (own.map (·.2))) (f x) (setU (Γb x) i m)) (ob : ∀ x ∈ xs, OneU (Γb x) i)
    (ht : ∀ (s : Shared) (H : Hp) (C : Addr) (cl : List (Str × Addr)) (fp : List Addr), ∀ x ∈ xs, Tsj i c1 (X.blk s H scope (compEnvC scope cl C X.env) fp) (Γb x) ifs (q x))
    (he : ∀ (s : Shared) (H : Hp) (C : Addr) (cl : List (Str × Addr)) (fp : List Addr), ∀ x ∈ xs, q x true → Ej i c2 (X.blk s H scope (compEnvC scope cl C X.env) fp) (Γb x) elt (r x))
    (h0 : J 0 []) (hF : ∀ k x acc, xs[k]? = some x → J k acc → q x false → J (k + 1) acc) (hT : ∀ k x acc d, xs[k]? = some x → J k acc → q x true → r x d → J (k + 1) (acc ++ [d])) (n : Nat) (hn : xs.length * (c1 + c2) ≤ n)
    (hs : ∀ x, foldedSetIterable iter X.env x = pure x := by intro _; rfl) :
    Ej i n X Γ (.ListComp elt [⟨tg, iter, ifs, 0⟩] scope pos) (fun d => ∃ ds, d = .list ds ∧ J xs.length ds) := by
  refine PE_mono (pe_lc (own := own) (g := gt) (wi := fun σ H R => ∃ m, True ∧ tEi false (setU Γ i m) (xs.map f) σ H R) (tt := fun σ H Q => ∃ x : α, x ∈ xs ∧ tTj i c1 (Γb x) (q x) σ H Q) (te := fun σ H Q => ∃ x : α, (x ∈ xs ∧ q x true) ∧ tEj i c2 (Γb x) (r x) σ H Q) g.calm g.nd (PI_ex fun m _ => hi m) ok hg
    (fun s H C cl fp => PTs_ex fun x hx => ht s H C cl fp x hx) (fun s H C cl fp => PE_ex fun x hx => he s H C cl fp x hx.1 hx.2) hs) fun σ H Q ⟨c, m, hm, o, R, k⟩ => ⟨m, trivial, c, R, fun J1 H1 s1 ⟨G, Y, hz, w, hG, hY⟩ D hD => ?_⟩
  have R1 := R.same s1
  rw [List.length_map] at w hz
  have u1 := urn0 R o s1
  have bud : ∀ j, j ≤ xs.length → m + j * (c1 + c2) ≤ big := fun j hj => by
    have := Nat.mul_le_mul_right (c1 + c2) hj
    omega
  refine lc_it (g := gt) (tt := fun σ H Q => ∃ x : α, x ∈ xs ∧ tTj i c1 (Γb x) (q x) σ H Q) (te := fun σ H Q => ∃ x : α, (x ∈ xs ∧ q x true) ∧ tEj i c2 (Γb x) (r x) σ H Q) (vs := own.map (·.2)) (σ := σ) (Qd := fun H => Q (.ref D) H) w
    (fun j H2 => Uh c H1 H2 ∧ UrnC c H2 (m + j * (c1 + c2)) ∧ ∃ acc ds, H2 D = some (.lst acc) ∧ DbAll (fun b => c.B b ∨ b = D) H2 acc ds ∧ J j ds ∧ ds.length ≤ j)
    ⟨Uh.same (same_new hD _), fun a ha => by simpa using (u1 a ha).same (same_new hD _), [], [], upd_same, .nil, h0, Nat.le_refl _⟩
    (fun j H2 _ ⟨u2, w2, _⟩ => hG H2 fun b o' h e => (R1.drawn o.lt o.one u2 w2).2.keep b o' (by rcases h with h | h; exact (nomatch h); exact h) e) (fun j v H2 H3 hj ⟨u2, w2, acc, ds, ea, ha, hJ, hl⟩ y => ?_) fun H2 ⟨u2, w2, acc, ds, ea, ha, hJ, hl⟩ => ?_
  · have hx : xs[j]? = some xs[j] := List.getElem?_eq_getElem hj
    obtain ⟨s3, d, hd, hv⟩ := hY j H2 v H3 (by simpa using hj) (fun b o' h e => (R1.drawn o.lt o.one u2 w2).2.keep b o' (by rcases h with h | h; exact (nomatch h); exact h) e) y
    have ed : d = f xs[j] := by
      rw [List.getElem?_map, hx] at hd
      exact (Option.some.inj hd).symm
    subst ed
    have hm' : xs[j] ∈ xs := List.getElem_mem hj
    have u3 : Uh (c.plus D) (upd H1 D (.lst acc)) H3 := fun b o' nb e => by
      by_cases hb : b = D
      · subst hb
        rw [upd_same] at e
        cases e
        exact s3 _ _ ea
      · rw [upd_ne hb] at e
        exact s3 _ _ (u2 b o' nb e)
    have w3 : UrnC c H3 (m + j * (c1 + c2)) := fun a ha => (w2 a ha).same s3
    have R3 : REnv (c.plus D) σ H3 (setU Γ i (m + j * (c1 + c2))) := ((R1.inner hD (same_new hD (.lst acc)) upd_same).drawn o.lt o.one u3 w3).1
    have hv' : Db (c.plus D).B H3 v (f xs[j]) := hv _ (fun b h => .inl h) fun b h => h.imp id fun e => by rw [e]; exact hD
    have b1 := bud (j + 1) hj
    rw [Nat.succ_mul] at b1
    refine hbd _ xs[j] hm' (c.plus D) _ H3 v _ (R3.wipe _) hv' fun σ2 R4 w4 => ⟨w4.trans (wipe_wipe _ _), xs[j], hm', c.plus D, _, by omega, ob _ hm', R4, fun bb H4 u4 w4' pb => ?_⟩
    have R5 := (R4.drawn (ob _ hm').lt (ob _ hm').one u4 w4').1
    have nD : c.ua ≠ some D := fun z => by
      obtain ⟨a', h0', _, h2', _⟩ := R1.urn i m (setU_at o.lt)
      rw [h0'] at z
      cases z
      exact not_free R1 _ h2' hD
    have lt : acc.length < sizeLine := by
      rw [ha.length]
      omega
    have U4 : Uh c H1 H4 := u2.trans ((Uh.same s3).trans u4)
    refine ite2 (fun hp => ?_) (fun hp => ?_)
    · subst hp
      refine ⟨xs[j], ⟨hm', pb⟩, c.plus D, _, by omega, ob _ hm', R5, fun z d H5 u5 w5 pd hz5 => ?_⟩
      have e5 : H5 D = some (.lst acc) := u5 D _ nD (u4 D _ nD (s3 _ _ ea))
      have l5 := (R5.drawn (ob _ hm').lt (ob _ hm').one u5 w5).2
      have l4 := (R4.drawn (ob _ hm').lt (ob _ hm').one u4 w4').2
      have mv : ∀ b o, (¬ (c.B b ∨ b = D) ∨ ¬ IsMut o) → H5 b = some o → (upd H5 D (.lst (acc ++ [z]))) b = some o := fun b o h e => by
        have nb : b ≠ D := fun q => by
          rcases h with h | h
          · exact h (.inr q)
          · rw [q, e5] at e
            cases e
            exact h trivial
        rw [upd_ne nb]
        exact e
      refine ⟨acc, e5, lt, fun b o' nb e => ?_, fun a ha' => ?_, acc ++ [z], ds ++ [d], upd_same, ?_, hT j xs[j] ds d hx hJ pb pd, ?_⟩
      · have ne : b ≠ D := ne_of_none e hD
        rw [upd_ne ne]
        exact u5 b o' nb (U4 b o' nb e)
      · obtain ⟨x', y', z', w, h1, h2, h3, h4⟩ := w5 a ha'
        have ne : a ≠ D := fun q => nD (q ▸ ha')
        refine ⟨x', y', z', by rw [upd_ne ne]; exact w, h1, ?_, h3, h4⟩
        rw [Nat.succ_mul]
        omega
      · have k2 : ∀ b o', (¬ (c.B b ∨ b = D) ∨ ¬ IsMut o') → H2 b = some o' → H5 b = some o' := fun b o' h e => l5.keep b o' h (l4.keep b o' h (s3 _ _ e))
        exact (Db.mvAll mv _ _ (Db.mvAll k2 _ _ ha)).append (.one (hz5.mv mv))
      · simp; omega
    · have hp' : bb = false := by simpa using hp
      subst hp'
      have l4 := (R4.drawn (ob _ hm').lt (ob _ hm').one u4 w4').2
      refine ⟨U4, fun a ha' => (w4' a ha').up (by rw [Nat.succ_mul]; omega), acc, ds, u4 D _ nD (s3 _ _ ea), ?_, hF j xs[j] ds hx hJ pb, by omega⟩
      exact Db.mvAll (fun b o' h e => l4.keep b o' h (s3 _ _ e)) _ _ ha
  · refine k _ _ H2 ((Uh.same s1).trans u2) (fun a ha' => (w2 a ha').up (by omega)) ⟨ds, rfl, hJ⟩ (.lst (fun z => not_free R1 _ z hD) ⟨by rw [ha.length]; omega, ea⟩ (Db.banAll (fun b h => .inl h) _ _ ha))
end
end DL

namespace DL
open PySem PySem.Spec PyProof.Rows L2

/-! ### defs that draw: the urn first -/
def spU (c : Nat) (P : List PyData → PyData → Prop) : Sp := fun vs H Q _ => ∃ (B : Addr → Prop) (a : Addr) (vs' : List V) (ds : List PyData) (m : Nat), vs = .ref a :: vs' ∧ B a ∧ m + c ≤ big ∧ UrnAt H a m ∧ DbAll B H vs' ds ∧
  (∀ b, B b → ∃ o, H b = some o ∧ IsMut o) ∧ (∃ d, P ds d) ∧ ∀ v H' d, (∀ b o, b ≠ a → H b = some o → H' b = some o) → UrnAt H' a (m + c) → P ds d → (∀ B' : Addr → Prop, Db B' H' v d) → Q v H'
structure FnU (Pr : Program) (w : World) (K : PySem.W.Frag) (mg : Str → Option Value) (base : Heap) (x : Str) (k : Nat) (ps : List Str) (c : Nat) (P : List PyData → PyData → Prop) : Prop where
  ex : ∃ (f : Addr) (fd : FuncData), FnOk Pr w K mg base CX0 k f fd ps (spU c P) ∧ mg x = some (.ref f) ∧ PySem.W.keepIn K (.ref f) = true ∧ Binds K fd ps []
section
variable {X : Cx} {Γ : DEnv} {a b e t : Expr} {es : List Expr} {pos p p2 : Pos} {d : PyData} {ds : List PyData} {x u : Str} {k i c c1 : Nat} {ps : List Str} {P : List PyData → PyData → Prop} {Ps : List PyData → Prop} {P' : PyData → Prop}
theorem ej_fnU (F : FnU X.prog X.w X.K X.mg X.base x k ps c1 P) (hr : Room k X.A) (ha : Aj i c X Γ es Ps) (hp : ∀ ds, Ps ds → ∃ d, P ds d) (hp2 : ∀ ds d, Ps ds → P ds d → P' d) (hN : X.N[i]? = some u := by rfl)
    (hv : Vis X.env.scope u := by first | exact Or.inl rfl | exact Or.inr (Or.inl rfl) | exact Or.inr (Or.inr rfl)) (hd : (u == ("__debug__" : Str)) = false := by decide) (hcd : (u == ("__classdict__" : Str)) = false := by decide) (hg : Gl X x := by rfl) (hdb : (x == ("__debug__" : Str)) = false := by decide)
    (he : starEach (.Name u p2 :: es) X.env = (false, eval (.Name u p2) X.env) :: starEach es X.env := by rfl) (hpl : (backTo pos (starEach es X.env)).any (·.1) = false := by rfl) : Ej i (c + c1) X Γ (.Call (.Name x p) (.Name u p2 :: es) [] pos) P' := by
  obtain ⟨f, fd, hF, hm, hk, hb⟩ := F.ex
  refine PE_mono (pe_call hF hr hg hm hk hb .nil pass0 (pa_cons (pe_var hN hv hd hcd) ha he) hdb he hpl) fun σ H Q ⟨ct, m, hm, o, R, q⟩ => ?_
  obtain ⟨a, h0, h1, h2, h3, h4, h5⟩ := R.urn i m (setU_at o.lt)
  refine ⟨_, h1, ct, m, by omega, o, R, fun vs ds H1 u1 w1 p1 hds => ?_⟩
  show spU c1 P (V.ref a :: vs ++ []) H1 Q E0
  rw [List.append_nil]
  obtain ⟨R1, l1⟩ := R.drawn o.lt o.one u1 w1
  refine ⟨ct.B, a, vs, ds, m + c, rfl, h2, by omega, w1 a h0, hds, R1.muta, hp ds p1, fun v H' d kp ur pd hv => q v d H' (fun b o' nb e => ?_) (fun a' ha' => ?_) (hp2 ds d p1 pd) (hv _)⟩
  · exact kp b o' (fun z => nb (by rw [z]; exact h0)) (u1 b o' nb e)
  · rw [h0] at ha'
    cases ha'
    rw [← Nat.add_assoc]
    exact ur
end
/-- the environment at the entry: the urn, the others -/
def envU (m : Nat) (ds : List PyData) (n : Nat) : DEnv := .urn m :: (ds.map .val ++ List.replicate (n - (ds.length + 1)) .no)
theorem env_shape {L : List Slot} {n : Nat} {i : Nat} {t : Slot} {ds : List PyData} (h : (ds.map Slot.val ++ List.replicate n Slot.no)[i]? = some t) (ht : t ≠ .no) : ∃ d, ds[i]? = some d ∧ t = .val d := by
  by_cases hi : i < ds.length
  · rw [List.getElem?_append_left (by simpa using hi), List.getElem?_map, List.getElem?_eq_getElem hi] at h
    cases h
    exact ⟨_, List.getElem?_eq_getElem hi, rfl⟩
  · rw [List.getElem?_append_right (by simpa using hi), List.getElem?_replicate] at h
    split at h <;> cases h
    exact absurd rfl ht
theorem start_at {N : List Str} {vs : List V} {i : Nat} {v : V} (h : vs[i]? = some v) : (L2.start N vs)[i]? = some (some v) := by
  have hi : i < vs.length := (List.getElem?_eq_some_iff.mp h).1
  unfold L2.start
  rw [List.getElem?_append_left (by simpa using hi), List.getElem?_map, h]
  rfl
theorem renvU {B : Addr → Prop} {H : Hp} {a : Addr} {vs : List V} {ds : List PyData} {N : List Str} {m : Nat} (hB : B a) (hu : UrnAt H a m) (h : DbAll B H vs ds) (hm : ∀ b, B b → ∃ o, H b = some o ∧ IsMut o) (hN : vs.length + 1 ≤ N.length) :
    REnv ⟨fun b => B b ∧ b ≠ a, B, fun b => b = a, H, some a⟩ (L2.start N (.ref a :: vs)) H (envU m ds N.length) := by
  have hl := h.length
  have sh : ∀ (i : Nat) (t : Slot), (envU m ds N.length)[i]? = some t → t ≠ .no → (i = 0 ∧ t = .urn m) ∨ ∃ j d, i = j + 1 ∧ ds[j]? = some d ∧ t = .val d := fun i t e ne => by
    cases i with
    | zero => exact .inl ⟨rfl, by simpa [envU] using e.symm⟩
    | succ j =>
      obtain ⟨d, h1, h2⟩ := env_shape (L := []) (show (ds.map Slot.val ++ List.replicate (N.length - (ds.length + 1)) Slot.no)[j]? = some t by simpa [envU] using e) ne
      exact .inr ⟨j, d, rfl, h1, h2⟩
  refine ⟨?_, fun i d e => ?_, fun i d e => ?_, fun i j d e a _ h1 _ _ _ => ?_, hm, fun b q => q.1, fun b o _ e => e, fun i n e => ?_, fun i v S e => ?_, fun i j n d a' e _ _ _ => ?_⟩
  · unfold L2.start envU
    simp [hl]
  · rcases sh i _ e nofun with ⟨_, q⟩ | ⟨j, d', rfl, h1, q⟩
    · cases q
    · cases q
      obtain ⟨v, h2, h3⟩ := h.get h1
      exact ⟨v, start_at (by simpa using h2), h3⟩
  · rcases sh i _ e nofun with ⟨_, q⟩ | ⟨j, d', rfl, h1, q⟩ <;> cases q
  · rcases sh i _ h1 nofun with ⟨_, q⟩ | ⟨j, d', rfl, h1, q⟩ <;> cases q
  · rcases sh i _ e nofun with ⟨rfl, q⟩ | ⟨j, d', rfl, h1, q⟩
    · cases q
      exact ⟨a, rfl, start_at rfl, hB, fun z => z.2 rfl, .inl rfl, hu⟩
    · cases q
  · rcases sh i _ e nofun with ⟨_, q⟩ | ⟨j, d', rfl, h1, q⟩ <;> cases q
  · rcases sh i _ e nofun with ⟨_, q⟩ | ⟨j, d', rfl, h1, q⟩ <;> cases q
section
variable {Pr : Program} {w : World} {K : PySem.W.Frag} {mg : Str → Option Value} {base : Heap} {x qual : Str} {params : Arguments} {body : List Stmt} {scope : Scope} {f : Addr} {fd : FuncData} {N ps : List Str} {k c : Nat} {P : List PyData → PyData → Prop}
theorem fn_okU (F : FunD K x qual params body scope [] [] f fd) (S : FnScope N ps scope) (hlen : ∀ ds d, P ds d → ds.length + 1 = ps.length) (hN : ps.length ≤ N.length)
    (h : ∀ (cdv : Value) (A : Around) (outer : List Env) (s : Shared) (H : Hp) (E : XK), Room k (A.deeper (envOfC qual scope s.heap.objs.size f cdv)) → XG true (A.deeper (envOfC qual scope s.heap.objs.size f cdv)) N →
      ∀ m ds d0, m + c ≤ big → P ds d0 → St (bX Pr w K mg base N qual scope f cdv A outer s H E) (envU m ds N.length) body (fun _ => False) (fun d G => (∃ n, n ≤ m + c ∧ G[0]? = some (.urn n)) ∧ flatD d = true ∧ P ds d)) :
    FnOk Pr w K mg base CX0 (k + 1) f fd ps (spU c P) := by
  refine F.ok S (fun vs H Q E ⟨B, a, vs', ds, m, e, _, _, _, h1, _, ⟨d, hp⟩, _⟩ => by rw [e, List.length_cons, h1.length]; exact hlen ds d hp) fun cdv A outer s H vs Q E hr ⟨B, a, vs', ds, m, e, hB, hb, hu, h1, hm, ⟨d0, hp⟩, q⟩ => ?_
  have g : XG true (A.deeper (envOfC qual scope s.heap.objs.size f cdv)) N := ⟨rfl, by have := hr.un; omega, hr.hd, S.nd⟩
  subst e
  refine ⟨_, PSs.nox (h cdv A outer s H E hr g m ds d0 hb hp), ⟨fun b => B b ∧ b ≠ a, B, fun b => b = a, H, some a⟩, renvU hB hu h1 hm (by rw [h1.length, hlen ds d0 hp]; exact hN), fun c' σ' H' Γ' l e E' => e.elim, fun c' σ' H' Γ' v d' l ⟨⟨n, hn, e0⟩, hfl, pd⟩ E' hv => ?_⟩
  refine q v H' d' (fun b o nb e => E'.keep b o (by rw [l.u]; exact nb) (by rw [l.h0]; exact e)) ?_ pd fun B' => Db.flat _ _ hv hfl
  obtain ⟨a', g0, _, _, _, _, g5⟩ := E'.urn 0 n e0
  rw [l.ua a rfl] at g0
  cases g0
  exact g5.up hn
theorem fn_u (F : FunD K x qual params body scope [] [] f fd) (hF : FnOk Pr w K mg base CX0 k f fd ps (spU c P)) (hm : mg x = some (.ref f))
    (hb : ∀ (kV doc pm : Value) (an : Option Addr) (cdv ct : Value) (us : List Value), us.length = ps.length → bindArgs (PySem.W.fnOf x qual params body scope .none kV doc pm an cdv ct) ⟨us, []⟩ = pure (ps.zip us)) : FnU Pr w K mg base x k ps c P :=
  ⟨f, fd, hF, hm, F.kp, F.bindsN hb⟩
end
/-! ### statements that draw -/
theorem setU_self {Γ : DEnv} {i m : Nat} (h : Γ[i]? = some (.urn m)) : setU Γ i m = Γ := by
  apply List.ext_getElem?
  intro j
  by_cases hij : i = j
  · subst hij
    rw [setU_at (List.getElem?_eq_some_iff.mp h).1, h]
  · exact List.getElem?_set_ne hij
section
variable {X : Cx} {Γ : DEnv} {N N1 : DEnv → Prop} {R : PyData → DEnv → Prop} {s : Stmt} {ss body els : List Stmt} {a b e t tg : Expr} {d : PyData} {pos : Pos} {i c m k l : Nat} {P : PyData → Prop} {Ps : List PyData → Prop} {PB : Bool → Prop} {Q1 : Int → Prop} {gt : TG}
theorem s_retJ (h : Ej i c X Γ e P) (hm : Γ[i]? = some (.urn m)) (o : OneU Γ i) (hc : m + c ≤ big) (hr : ∀ d, P d → flatD d = true ∧ R d (setU Γ i (m + c))) : S1 X Γ (.Return (some e) pos) N R :=
  PS_mono (ps_ret h) fun D σ H ⟨ct, E, kk, r⟩ => ⟨ct, m, hc, o, by rw [setU_self hm]; exact E, fun v d H1 u1 w1 pd hd => by
    have E' : REnv ct σ H (setU Γ i m) := by rw [setU_self hm]; exact E
    obtain ⟨R1, l1⟩ := E'.drawn o.lt o.one u1 w1
    exact r ct σ H1 _ v d l1 (hr d pd).2 R1 (Db.flat _ _ hd (hr d pd).1)⟩
theorem s_setJ {x : Str} {pos' : Pos} (h : Ej i c X Γ e P) (g : XG X.calm X.A X.N) (hm : Γ[i]? = some (.urn m)) (o : OneU Γ i) (hc : m + c ≤ big) (hi : X.N[k]? = some x := by rfl) (hx : Loc X.env.scope x := by first | exact .inl rfl | exact .inr rfl) (hs : swapsWith e (some (.Name x pos')) pos.line X.env = pure false := by rfl)
    (hf : X.fn x = true ∨ X.env.scope.names.lookup x = some .local := by first | exact .inl rfl | exact .inr rfl | assumption) : S1 X Γ (.Assign [.Name x pos'] e pos) (fun G => ∃ d, P d ∧ G = (setU Γ i (m + c)).set k (.val d)) R :=
  PS_mono (ps_set (i := k) g.nd hi hx h hs hf) fun D σ H ⟨ct, E, kk, r⟩ => ⟨ct, m, hc, o, by rw [setU_self hm]; exact E, fun v d H1 u1 w1 pd hd => by
    have E' : REnv ct σ H (setU Γ i m) := by rw [setU_self hm]; exact E
    obtain ⟨R1, l1⟩ := E'.drawn o.lt o.one u1 w1
    exact kk ct _ H1 _ l1 ⟨d, pd, rfl⟩ (R1.setVal k hd)⟩
theorem st_setJ {x : Str} {pos' : Pos} (h : Ej i c X Γ e P) (g : XG X.calm X.A X.N) (hm : Γ[i]? = some (.urn m)) (o : OneU Γ i) (hc : m + c ≤ big) (hs : ∀ d, P d → St X ((setU Γ i (m + c)).set k (.val d)) ss N R) (hi : X.N[k]? = some x := by rfl) (hx : Loc X.env.scope x := by first | exact .inl rfl | exact .inr rfl) (hsw : swapsWith e (some (.Name x pos')) pos.line X.env = pure false := by rfl)
    (hf : X.fn x = true ∨ X.env.scope.names.lookup x = some .local := by first | exact .inl rfl | exact .inr rfl | assumption) : St X Γ (.Assign [.Name x pos'] e pos :: ss) N R :=
  st_cons (s_setJ h g hm o hc hi hx hsw hf) fun G ⟨d, pd, e⟩ => by rw [e]; exact hs d pd
theorem st_parJ {x y : Str} {px py pt : Pos} {kt k2 pt2} {c1 c2 : Nat} {P1 P2 : PyData → Prop} (h1 : Ej i c1 X Γ a P1) (h2 : Ej i c2 X Γ b P2) (g : XG X.calm X.A X.N) (hm : Γ[i]? = some (.urn m)) (o : OneU Γ i) (hc : m + (c1 + c2) ≤ big) (hs : ∀ d1 d2, P1 d1 → P2 d2 → St X (((setU Γ i (m + (c1 + c2))).set k (.val d1)).set l (.val d2)) ss N R) (hi : X.N[k]? = some x := by rfl) (hj : X.N[l]? = some y := by rfl) (hij : k ≠ l := by decide)
    (hx : X.env.scope.names.lookup x = some .local := by rfl) (hy : X.env.scope.names.lookup y = some .local := by rfl)
    (hw : swappedStores [.Tuple [.Name x px, .Name y py] kt pt] (.Tuple [a, b] k2 pt2) X.env = pure (some [x, y]) := by rfl) (hs1 : starEach [a, b] X.env = (false, eval a X.env) :: starEach [b] X.env := by rfl) (hs2 : starEach [b] X.env = (false, eval b X.env) :: starEach [] X.env := by rfl) : St X Γ (.Assign [.Tuple [.Name x px, .Name y py] kt pt] (.Tuple [a, b] k2 pt2) pos :: ss) N R :=
  st_cons (N1 := fun G => ∃ d1 d2, P1 d1 ∧ P2 d2 ∧ G = ((setU Γ i (m + (c1 + c2))).set k (.val d1)).set l (.val d2)) (PS_mono (ps_par g.calm g.nd hi hj hij hx hy (aj_cons h1 (aj_cons h2 aj_nil hs2) hs1) hw) fun D σ H ⟨ct, E, kk, r⟩ => ⟨ct, m, hc, o, by rw [setU_self hm]; exact E, fun vs ds H1 u1 w1 ⟨d1, ds1, e1, p1, d2, ds2, e2, p2, e3⟩ hd => by
    have E' : REnv ct σ H (setU Γ i m) := by rw [setU_self hm]; exact E
    obtain ⟨R1, l1⟩ := E'.drawn o.lt o.one u1 w1
    subst e3
    subst e2
    subst e1
    cases hd with
    | cons q1 t =>
      cases t with
      | cons q2 t =>
        cases t
        exact ⟨_, _, rfl, kk ct _ H1 _ l1 ⟨_, _, p1, p2, rfl⟩ ((R1.setVal k q1).setVal l q2)⟩⟩) fun G ⟨d1, d2, p1, p2, e⟩ => by rw [e]; exact hs d1 d2 p1 p2
theorem s_ifJ (ht : Tj i c X Γ t PB) (hm : Γ[i]? = some (.urn m)) (o : OneU Γ i) (hc : m + c ≤ big) (ha : PB true → St X (setU Γ i (m + c)) body N R) (hb : PB false → St X (setU Γ i (m + c)) els N R) : S1 X Γ (.If t body els pos) N R := by
  have h1 : PSs X body (fun D σ H => PB true ∧ tSt (setU Γ i (m + c)) N R D σ H) := ⟨fun pins s σ H D I ⟨p, h⟩ => (ha p).run pins s σ H D I h⟩
  have h2 : PSs X els (fun D σ H => PB false ∧ tSt (setU Γ i (m + c)) N R D σ H) := ⟨fun pins s σ H D I ⟨p, h⟩ => (hb p).run pins s σ H D I h⟩
  refine PS_mono (ps_if ht h1 h2) fun D σ H ⟨ct, E, kk, r⟩ => ⟨ct, m, hc, o, by rw [setU_self hm]; exact E, fun x H1 u1 w1 p1 => ?_⟩
  have E' : REnv ct σ H (setU Γ i m) := by rw [setU_self hm]; exact E
  obtain ⟨R1, l1⟩ := E'.drawn o.lt o.one u1 w1
  have fin : tSt (setU Γ i (m + c)) N R D σ H1 := ⟨ct, R1, fun c2 σ2 H2 Γ2 l2 => kk c2 σ2 H2 Γ2 (l1.trans l2), fun c2 σ2 H2 Γ2 v d l2 => r c2 σ2 H2 Γ2 v d (l1.trans l2)⟩
  cases x
  · exact L2.iteF ⟨p1, fin⟩
  · exact L2.iteT ⟨p1, fin⟩
/-- for .. in range(what is drawn) -/
theorem s_forJ {p pos2 : Pos} (g : XG X.calm X.A X.N) (vs : List Nat) (hr : X.mg "range" = none) (he : Ij i c X Γ e Q1) (hm : Γ[i]? = some (.urn m)) (o : OneU Γ i) (hc : m + c ≤ big) (hq : ∀ n, Q1 n → 0 ≤ n ∧ n ≤ 1000000) (J : Int → Nat → DEnv → Prop) (hg : PG X tg gt) (h0 : ∀ n, Q1 n → J n 0 (setU Γ i (m + c)))
    (hb : ∀ n (j : Nat) Γ1, Q1 n → (j : Int) < n → J n j Γ1 → ∃ Γ2, Bd vs gt Γ1 (.int j) Γ2 ∧ St X Γ2 body (J n (j + 1)) R) (hn : ∀ n Γ1, Q1 n → J n n.toNat Γ1 → N Γ1) (hgl : Gl X "range" := by rfl)
    (hse : starEach [e] X.env = (false, eval e X.env) :: starEach [] X.env := by rfl)
    (hp : PassesOwn (model X.prog X.w) X.A X.env X.xe := by exact PassesOwn.never) (hs : ∀ x, foldedSetIterable (.Call (.Name "range" p) [e] [] pos) X.env x = pure x := by intro _; rfl) : S1 X Γ (.For tg (.Call (.Name "range" p) [e] [] pos) body [] pos2) N R := by
  refine PS_mono (ps_for (tb := fun D σ H => ∃ p : Int × Nat × DEnv, (Q1 p.1 ∧ (p.2.1 : Int) < p.1 ∧ St X p.2.2 body (J p.1 (p.2.1 + 1)) R) ∧ tSt p.2.2 (J p.1 (p.2.1 + 1)) R D σ H) hp g.calm (pi_range1 hgl hr (pa_cons he pa_nil hse) hse) hg
    (PSs_ex (φ := fun p : Int × Nat × DEnv => Q1 p.1 ∧ (p.2.1 : Int) < p.1 ∧ St X p.2.2 body (J p.1 (p.2.1 + 1)) R) (t := fun p => tSt p.2.2 (J p.1 (p.2.1 + 1)) R) fun p hp => hp.2.2) hs) fun D σ H ⟨ct, E, kk, r⟩ => ⟨ct, m, hc, o, by rw [setU_self hm]; exact E, fun v d H1 u1 w1 ⟨n, q1, e1⟩ hd => ?_⟩
  subst e1
  cases hd
  have E' : REnv ct σ H (setU Γ i m) := by rw [setU_self hm]; exact E
  obtain ⟨R1, l1⟩ := E'.drawn o.lt o.one u1 w1
  obtain ⟨b1, b2⟩ := hq n q1
  refine ⟨n, rfl, by omega, by omega, ?_⟩
  refine for_it (g := gt) (tb := fun D σ H => ∃ p : Int × Nat × DEnv, (Q1 p.1 ∧ (p.2.1 : Int) < p.1 ∧ St X p.2.2 body (J p.1 (p.2.1 + 1)) R) ∧ tSt p.2.2 (J p.1 (p.2.1 + 1)) R D σ H) (D := D) (σ := σ) (walk_range (lo := 0) (n := n.toNat)) (fun j σ2 H2 => ∃ c2 Γ2, J n j Γ2 ∧ Le ct c2 H1 H2 ∧ REnv c2 σ2 H2 Γ2) ⟨ct, _, h0 n q1, Le.same (Same.refl H1), R1⟩ (fun _ _ _ _ _ => trivial)
    (fun j v σ2 H2 H3 hj ⟨c2, Γ2, j2, l2, E2⟩ y => ?_) fun σ2 H2 ⟨c2, Γ2, j2, l2, E2⟩ => kk c2 σ2 H2 Γ2 (l1.trans l2) (hn n Γ2 q1 j2) E2
  obtain ⟨rfl, rfl⟩ := y
  have hj' : (j : Int) < n := by omega
  obtain ⟨Γ3, hbd, hst⟩ := hb n j Γ2 q1 hj' j2
  refine hbd c2 σ2 _ _ _ E2 (by show Db c2.B _ (.int (0 + (j : Int))) _; rw [Int.zero_add]; exact .int _) fun σ4 E4 _ => ⟨(n, j, Γ3), ⟨q1, hj', hst⟩, c2, E4, fun c5 σ5 H5 Γ5 l5 j5 E5 => ⟨c5, Γ5, j5, l2.trans l5, E5⟩, fun c5 σ5 H5 Γ5 u d5 l5 r5 E5 h5 => ?_⟩
  exact r c5 σ5 H5 Γ5 u d5 (l1.trans (l2.trans l5)) r5 E5 (l2.b0 ▸ h5)
end
end DL

namespace DL
open PySem PySem.Spec PyProof.Rows L2
theorem urn_put {c : Ct} {σ : L2.St} {H : Hp} {Γ : DEnv} {i m m' : Nat} (E : REnv c σ H Γ) (hm : Γ[i]? = some (.urn m)) (o : OneU Γ i) {a : Addr} {x y z : Int} (h0 : c.ua = some a) (h1 : 0 ≤ z) (h2 : z ≤ m') (h3 : -(2 ^ 62) < y) (h4 : y < 2 ^ 62) :
    REnv c σ (upd H a (.lst [.int x, .int y, .int z])) (setU Γ i m') ∧ Le c c H (upd H a (.lst [.int x, .int y, .int z])) := by
  have E' : REnv c σ H (setU Γ i m) := by rw [setU_self hm]; exact E
  refine E'.drawn o.lt o.one (fun b o' nb e => ?_) fun b hb => ?_
  · rw [upd_ne (fun q => nb (by rw [q]; exact h0))]
    exact e
  · rw [h0] at hb
    cases hb
    exact ⟨x, y, z, upd_same, h1, h2, h3, h4⟩
section
variable {X : Cx} {Γ : DEnv} {R : PyData → DEnv → Prop} {e : Expr} {pos p1 p2 p3 p4 tpos : Pos} {i c m : Nat} {P : Int → Prop} {u : Str} {kk k2 k3 : Option Str}
theorem s_urn0 {kk} (he : Ij i c X Γ e P) (hm : Γ[i]? = some (.urn m)) (o : OneU Γ i) (hc : m + c ≤ big)
    (hN : X.N[i]? = some u := by rfl) (hv : Vis X.env.scope u := by first | exact Or.inl rfl | exact Or.inr (Or.inl rfl) | exact Or.inr (Or.inr rfl)) (hd : (u == ("__debug__" : Str)) = false := by decide) (hcd : (u == ("__classdict__" : Str)) = false := by decide)
    (ha : ∀ v, assign (.Subscript (.Name u p1) (.Constant (.int 0) kk p2) tpos) X.env v = (do
      let ov ← holding [v] (eval (.Name u p1) X.env)
      let iv ← holding [v, ov] (eval (.Constant (.int 0) kk p2) X.env)
      standAt tpos
      holding [v, ov, iv] (setItem ov iv v)
      release [v, ov, iv] []) := by intro _; rfl)
    (hs : swapsWithSole [.Subscript (.Name u p1) (.Constant (.int 0) kk p2) tpos] e pos.line X.env = pure false := by rfl) (hw : swappedStores [.Subscript (.Name u p1) (.Constant (.int 0) kk p2) tpos] e X.env = pure none := by rfl)
    (hq : (assignEach [.Subscript (.Name u p1) (.Constant (.int 0) kk p2) tpos] X.env).map (·.2) = [assign (.Subscript (.Name u p1) (.Constant (.int 0) kk p2) tpos) X.env] := by rfl) :
    S1 X Γ (.Assign [.Subscript (.Name u p1) (.Constant (.int 0) kk p2) tpos] e pos) (fun G => G = setU Γ i (m + c)) R :=
  PS_mono (ps_asg he (pg_sub (pe_var hN hv hd hcd) pe_int set_list ha) hs hw hq) fun D σ H ⟨ct, E, k, r⟩ => ⟨ct, m, hc, o, by rw [setU_self hm]; exact E, fun v d H1 u1 w1 ⟨n, q1, e1⟩ hd => by
    subst e1
    cases hd
    have E' : REnv ct σ H (setU Γ i m) := by rw [setU_self hm]; exact E
    obtain ⟨R1, l1⟩ := E'.drawn o.lt o.one u1 w1
    obtain ⟨a, h0, h1, h2, h3, h4, x, y, z, h5, h6, h7, h8, h9⟩ := R1.urn i _ (setU_at o.lt)
    refine ⟨_, h1, a, [.int x, .int y, .int z], 0, 0, rfl, rfl, h5, rfl, ?_⟩
    have o1 : OneU (setU Γ i (m + c)) i := ⟨by simpa [setU] using o.lt, fun j n e => by
      by_cases hij : i = j
      · exact hij.symm
      · unfold setU at e
        rw [List.getElem?_set_ne hij] at e
        exact o.one j n e⟩
    obtain ⟨R2, l2⟩ := urn_put (m' := m + c) (x := n) (y := y) (z := z) R1 (setU_at o.lt) o1 h0 h6 h7 h8 h9
    refine k ct σ _ _ (l1.trans l2) rfl ?_
    have : setU (setU Γ i (m + c)) i (m + c) = setU Γ i (m + c) := setU_self (setU_at o.lt)
    rw [this] at R2
    exact R2⟩
/-- urn[2] = urn[2] + 1 -/
theorem s_urnTick {kk k2 k3} {p5 p6 p7 : Pos} (hm : Γ[i]? = some (.urn m)) (o : OneU Γ i)
    (hN : X.N[i]? = some u := by rfl) (hv : Vis X.env.scope u := by first | exact Or.inl rfl | exact Or.inr (Or.inl rfl) | exact Or.inr (Or.inr rfl)) (hd : (u == ("__debug__" : Str)) = false := by decide) (hcd : (u == ("__classdict__" : Str)) = false := by decide)
    (ha : ∀ v, assign (.Subscript (.Name u p1) (.Constant (.int 2) kk p2) tpos) X.env v = (do
      let ov ← holding [v] (eval (.Name u p1) X.env)
      let iv ← holding [v, ov] (eval (.Constant (.int 2) kk p2) X.env)
      standAt tpos
      holding [v, ov, iv] (setItem ov iv v)
      release [v, ov, iv] []) := by intro _; rfl)
    (hs : swapsWithSole [.Subscript (.Name u p1) (.Constant (.int 2) kk p2) tpos] (.BinOp (.Subscript (.Name u p3) (.Constant (.int 2) k2 p4) p5) .Add (.Constant (.int 1) k3 p6) p7) pos.line X.env = pure false := by rfl) (hw : swappedStores [.Subscript (.Name u p1) (.Constant (.int 2) kk p2) tpos] (.BinOp (.Subscript (.Name u p3) (.Constant (.int 2) k2 p4) p5) .Add (.Constant (.int 1) k3 p6) p7) X.env = pure none := by rfl)
    (hq : (assignEach [.Subscript (.Name u p1) (.Constant (.int 2) kk p2) tpos] X.env).map (·.2) = [assign (.Subscript (.Name u p1) (.Constant (.int 2) kk p2) tpos) X.env] := by rfl) :
    S1 X Γ (.Assign [.Subscript (.Name u p1) (.Constant (.int 2) kk p2) tpos] (.BinOp (.Subscript (.Name u p3) (.Constant (.int 2) k2 p4) p5) .Add (.Constant (.int 1) k3 p6) p7) pos) (fun G => G = setU Γ i (m + 1)) R :=
  PS_mono (ps_asg (pe_op op_add (pe_ix ix_list (pe_var hN hv hd hcd) pe_int (fun _ _ => rfl)) pe_int) (pg_sub (pe_var hN hv hd hcd) pe_int set_list ha) hs hw hq) fun D σ H ⟨ct, E, k, r⟩ => by
    obtain ⟨a, h0, h1, h2, h3, h4, x, y, z, h5, h6, h7, h8, h9⟩ := E.urn i m hm
    refine ⟨_, h1, a, [.int x, .int y, .int z], 2, .int z, rfl, rfl, SqL.of h5, rfl, ?_⟩
    refine ⟨z, 1, rfl, rfl, _, h1, a, [.int x, .int y, .int z], 2, 2, rfl, rfl, h5, rfl, ?_⟩
    obtain ⟨R2, l2⟩ := urn_put (m' := m + 1) (x := x) (y := y) (z := z + 1) E hm o h0 (by omega) (by omega) h8 h9
    exact k ct σ _ _ l2 rfl R2
/-! ### _law_take -/
theorem ev_int' {bz : Bool} {n : Int} {kk} : Ev bz X Γ (.Constant (.int n) kk pos) (.int n) := ev_int
end
end DL

namespace DL
open PySem PySem.Spec PyProof.Rows L2
theorem sqL_keep {K : PySem.W.Frag} {H H' : Hp} {a : Addr} {xs : List V} (h : SqL K H a xs) (k : ∀ b o, ¬ IsMut o → H b = some o → H' b = some o) (k2 : ∀ o, H a = some o → H' a = some o) : SqL K H' a xs := by
  rcases h with h | h
  · rcases h with h | ⟨o, h⟩
    · exact .inl (.inl (k2 _ h))
    · exact .inl (.inr ⟨o, k2 _ h⟩)
  · exact .inr h
theorem dbInts {B : Addr → Prop} {H : Hp} : ∀ ns : List Int, DbAll B H (ns.map V.int) (ns.map PyData.int)
  | [] => .nil
  | n :: ns => .cons (.int n) (dbInts ns)
section
variable {X : Cx} {bz : Bool} {Γ Γ' : DEnv} {N1 : DEnv → Prop} {R : PyData → DEnv → Prop} {a b e : Expr} {s : Stmt} {ss : List Stmt} {pos p1 p2 : Pos} {i : Nat} {d : PyData} {ds ds2 : List PyData}
/-- a frozen read of what holds no list -/
theorem Ev.thaw (h : Ev true X Γ e d) (hfl : flatD d = true) : Ev false X Γ e d := PE_mono h fun σ H Q ⟨c, E, k⟩ => ⟨c, E, fun v H1 s1 h1 => k v H1 s1 (Db.flat _ _ h1 hfl)⟩
/-- script[lo:hi] -/
theorem ev_scr {x : Str} {lo hi : Option Expr} {l u : Option Int} {al : Addr} {ns : List Int} {S : Hp → Prop} (h : Γ[i]? = some (.raw (.ref al) S)) (hS : ∀ H, S H → SqL X.K H al (ns.map V.int)) (hl : Pv false X Γ lo l) (hu : Pv false X Γ hi u) (hz : ns.length ≤ 1000000) (hN : X.N[i]? = some x := by rfl)
    (hv : Vis X.env.scope x := by first | exact Or.inl rfl | exact Or.inr (Or.inl rfl) | exact Or.inr (Or.inr rfl)) (hd : (x == ("__debug__" : Str)) = false := by decide)
    (hcd : (x == ("__classdict__" : Str)) = false := by decide) : Ev false X Γ (.Subscript (.Name x p1) (.Slice lo hi none p2) pos) (.list (cut (ns.map .int) l u)) :=
  PE_mono (pe_slice sl_list (pe_var hN hv hd hcd) hl hu) fun σ H Q ⟨c, R, k⟩ => by
    obtain ⟨h1, h2⟩ := R.raw i _ _ h
    refine ⟨_, h1, c, R, fun H1 s1 => ⟨c, R.same s1, fun H2 s2 => ?_⟩⟩
    have z := hS H2 ((h2.same s1).same s2).here
    refine ⟨_, _, rfl, z, fun q hq => k _ _ ((s1.trans s2).trans (same_new hq _)) (.lst (bn_new (R.same (s1.trans s2)) hq) (isL_new (cut_le _ _ (by simp; exact sl_of hz))) (((dbInts ns).cut l u).same (same_new hq _)))⟩
/-- x or y, both new lists -/
theorem nw_or (ha : Nw X Γ a (.list ds)) (hb : Nw X Γ b (.list ds2)) : Nw X Γ (.BoolOp .Or [a, b] pos) (.list (if ds = [] then ds2 else ds)) :=
  PE_mono (pe_orT ha (pe_one hb)) fun σ H Q ⟨c, E, k⟩ => ⟨c, E, fun q H1 hq s1 ho => by
    obtain ⟨xs, q1, q2, qz⟩ := ho.lstOf
    refine ⟨!xs.isEmpty, ?_, ?_⟩
    · exact .inl ⟨xs, SqL.of q1, rfl⟩
    · by_cases hx : xs = []
      · subst hx
        cases q2
        rw [if_pos rfl] at k
        refine L2.iteF ⟨c, E.same s1, fun q' H2 hq' s2 ho2 => k q' H2 (free_of_same s1 hq') (s1.trans s2) ho2⟩
      · have hd : ds ≠ [] := fun z => by
          subst z
          cases q2
          exact hx rfl
        rw [if_neg hd] at k
        have he : (!xs.isEmpty) = true := by cases xs; exact absurd rfl hx; rfl
        rw [he]
        exact L2.iteT (k q H1 hq s1 ho)⟩
theorem Nw.cast {d' : PyData} (h : Nw X Γ e d) (q : d = d') : Nw X Γ e d' := q ▸ h
theorem Ev.cast {d' : PyData} (h : Ev bz X Γ e d) (q : d = d') : Ev bz X Γ e d' := q ▸ h
theorem S1.post {N N' : DEnv → Prop} (h : S1 X Γ s N R) (m : ∀ G, N G → N' G) : S1 X Γ s N' R := PS_mono h fun D σ H ⟨c, E, k, r⟩ => ⟨c, E, fun c1 σ1 H1 G1 l1 n1 => k c1 σ1 H1 G1 l1 (m G1 n1), r⟩
theorem Cv.cast {op : CmpOp} {d' : PyData} (h : Cv bz X Γ op a b d) (q : d = d') : Cv bz X Γ op a b d' := q ▸ h
/-! ### blocks that hand back a list of their own -/
def tSo (Γ : DEnv) (P : PyData → Prop) : TS := fun D σ H => ∃ c : Ct, REnv c σ H Γ ∧ ∀ c' H' q d, Le c c' H H' → (c'.U q ∨ c'.H0 q = none) → OwnAt c'.B H' q d → P d → (∀ b o, ¬ c'.U b → c'.H0 b = some o → H' b = some o) → D.rt (.ref q) H'
abbrev So (X : Cx) (Γ : DEnv) (ss : List Stmt) (P : PyData → Prop) : Prop := PSs X ss (tSo Γ P)
variable {P : PyData → Prop}
theorem so_cons (h : S1 X Γ s N1 (fun _ _ => False)) (hs : ∀ Γ1, N1 Γ1 → So X Γ1 ss P) : So X Γ (s :: ss) P :=
  PSs_mono (pss_cons h (PSs_ex (φ := N1) (t := fun Γ1 => tSo Γ1 P) hs)) fun D σ H ⟨c, E, k⟩ => ⟨c, E, fun c1 σ1 H1 Γ1 l1 n1 E1 => ⟨Γ1, n1, c1, E1, fun c2 H2 q d l2 => k c2 H2 q d (l1.trans l2)⟩, fun _ _ _ _ _ _ _ r => r.elim⟩
theorem so_to (h : S1 X Γ s (fun G => G = Γ') (fun _ _ => False)) (hs : So X Γ' ss P) : So X Γ (s :: ss) P := so_cons h fun Γ1 e => by rw [e]; exact hs
theorem so_ret {x : Str} (h : Γ[i]? = some (.own d)) (hp : P d) (hN : X.N[i]? = some x := by rfl)
    (hv : Vis X.env.scope x := by first | exact Or.inl rfl | exact Or.inr (Or.inl rfl) | exact Or.inr (Or.inr rfl)) (hd : (x == ("__debug__" : Str)) = false := by decide)
    (hcd : (x == ("__classdict__" : Str)) = false := by decide) : So X Γ [.Return (some (.Name x p1)) pos] P :=
  PSs_mono (pss_one (ps_ret (pe_var hN hv hd hcd))) fun D σ H ⟨c, E, k⟩ => by
    obtain ⟨a, h1, h2, h3, h4, h5⟩ := E.own i d h
    exact ⟨_, h1, k c H a d (Le.same (Same.refl H)) h4 h5 hp E.keep⟩
/-- a new list is handed back at once -/
theorem so_retN (h : Nw X Γ e d) (hp : P d) : So X Γ [.Return (some e) pos] P :=
  PSs_mono (pss_one (ps_ret h)) fun D σ H ⟨c, E, k⟩ => ⟨c, E, fun q H1 hq s1 ho => by
    obtain ⟨o, ho1, ho2⟩ := ho.muta
    obtain ⟨E1, L1⟩ := E.grow s1 hq ho1 ho2
    refine k _ H1 q d L1 ?_ ho hp E1.keep
    by_cases hu : c.U q
    · exact .inl hu
    · cases e : c.H0 q with
      | none => exact .inr rfl
      | some o' =>
        rw [E.keep q o' hu e] at hq
        cases hq⟩
end
/-! ### _law_cells, _law_box: promises -/
def spCells (K : PySem.W.Frag) : Sp := fun vs H Q _ => ∃ (a : Addr) (ns : List Int), vs = [.ref a, .int 1] ∧ SqL K H a (ns.map V.int) ∧ ns.length ≤ 63 ∧ ∀ q x H', H q = none → Same H H' → H' q = some (.lst [.int x]) → Q (.ref q) H'
def spBox : Sp := fun vs H Q _ => ∃ (a : Addr) (x : Int), vs = [.ref a, .int 0] ∧ H a = some (.lst [.int x]) ∧ ∀ q H', H q = none → Same H H' → UrnAt H' q 0 → Q (.ref q) H'
theorem OwnAt.ints {B : Addr → Prop} {H : Hp} {a : Addr} {ns : List Int} (h : OwnAt B H a (.list (ns.map .int))) : H a = some (.lst (ns.map V.int)) := by
  obtain ⟨xs, h1, h2, _⟩ := h.lstOf
  have : ∀ (xs : List V) (ns : List Int), DbAll B H xs (ns.map .int) → xs = ns.map V.int := by
    intro xs
    induction xs with
    | nil => intro ns h; cases ns with
      | nil => rfl
      | cons n ns => cases h
    | cons x xs ih => intro ns h; cases ns with
      | nil => cases h
      | cons n ns =>
        cases h with
        | cons h t =>
          cases h
          rw [ih ns t]
          rfl
  rw [h1, this xs ns h2]
section
variable {Pr : Program} {w : World} {K : PySem.W.Frag} {mg : Str → Option Value} {base : Heap} {x qual : Str} {params : Arguments} {body : List Stmt} {scope : Scope} {f : Addr} {fd : FuncData} {N ps : List Str} {k : Nat}
theorem renvRaw {H : Hp} {a : Addr} {vs : List V} {ds : List PyData} {N : List Str} {S : Hp → Prop} (hS : Stb (fun _ => False) H S) (h : DbAll (fun _ => False) H vs ds) :
    REnv ⟨fun _ => False, fun _ => False, fun _ => False, H, none⟩ (L2.start N (.ref a :: vs)) H (.raw (.ref a) S :: (ds.map .val ++ List.replicate (N.length - (ds.length + 1)) .no)) := by
  have hl := h.length
  have sh : ∀ (i : Nat) (t : Slot), (Slot.raw (.ref a) S :: (ds.map Slot.val ++ List.replicate (N.length - (ds.length + 1)) Slot.no))[i]? = some t → t ≠ .no → (i = 0 ∧ t = .raw (.ref a) S) ∨ ∃ j d, i = j + 1 ∧ ds[j]? = some d ∧ t = .val d := fun i t e ne => by
    cases i with
    | zero => exact .inl ⟨rfl, by simpa using e.symm⟩
    | succ j =>
      obtain ⟨d, h1, h2⟩ := env_shape (L := []) (show (ds.map Slot.val ++ List.replicate (N.length - (ds.length + 1)) Slot.no)[j]? = some t by simpa using e) ne
      exact .inr ⟨j, d, rfl, h1, h2⟩
  refine ⟨?_, fun i d e => ?_, fun i d e => ?_, fun i j d e a _ h1 _ _ _ => ?_, fun _ q => q.elim, fun b q => q, fun b o _ e => e, fun i n e => ?_, fun i v S' e => ?_, fun i j n d a' e _ _ _ => ?_⟩
  · unfold L2.start
    simp [hl]
  · rcases sh i _ e nofun with ⟨_, q⟩ | ⟨j, d', rfl, h1, q⟩
    · cases q
    · cases q
      obtain ⟨v, h2, h3⟩ := h.get h1
      exact ⟨v, start_at (by simpa using h2), h3⟩
  · rcases sh i _ e nofun with ⟨_, q⟩ | ⟨j, d', rfl, h1, q⟩ <;> cases q
  · rcases sh i _ h1 nofun with ⟨_, q⟩ | ⟨j, d', rfl, h1, q⟩ <;> cases q
  · rcases sh i _ e nofun with ⟨_, q⟩ | ⟨j, d', rfl, h1, q⟩ <;> cases q
  · rcases sh i _ e nofun with ⟨rfl, q⟩ | ⟨j, d', rfl, h1, q⟩
    · cases q
      exact ⟨start_at rfl, hS⟩
    · cases q
  · rcases sh i _ e nofun with ⟨_, q⟩ | ⟨j, d', rfl, h1, q⟩ <;> cases q
theorem fn_okCells (F : FunD K x qual params body scope [] [] f fd) (S : FnScope N ps scope) (hps : ps.length = 2)
    (h : ∀ (cdv : Value) (A : Around) (outer : List Env) (s : Shared) (H : Hp) (E : XK), Room k (A.deeper (envOfC qual scope s.heap.objs.size f cdv)) → XG true (A.deeper (envOfC qual scope s.heap.objs.size f cdv)) N →
      ∀ (a : Addr) (ns : List Int), ns.length ≤ 63 → So (bX Pr w K mg base N qual scope f cdv A outer s H E) (.raw (.ref a) (fun H => SqL K H a (ns.map V.int)) :: .val (.int 1) :: List.replicate (N.length - 2) .no) body (fun d => ∃ x, d = .list [.int x])) :
    FnOk Pr w K mg base CX0 (k + 1) f fd ps (spCells K) := by
  refine F.ok S (fun vs H Q E ⟨a, ns, e, _⟩ => by rw [e, hps]; rfl) fun cdv A outer s H vs Q E hr ⟨a, ns, e, hs, hl, q⟩ => ?_
  have g : XG true (A.deeper (envOfC qual scope s.heap.objs.size f cdv)) N := ⟨rfl, by have := hr.un; omega, hr.hd, S.nd⟩
  subst e
  refine ⟨_, PSs.nox (h cdv A outer s H E hr g a ns hl), _, renvRaw (vs := [.int 1]) (ds := [.int 1]) (S := fun H => SqL K H a (ns.map V.int)) (fun H' k => sqL_keep hs (fun b o _ e => k b o (.inl id) e) fun o e => k a o (.inl id) e) (.cons (.int 1) .nil), fun c' H' q0 d l hu ho ⟨x, hd⟩ kp => ?_⟩
  subst hd
  refine q q0 x H' ?_ (fun b o e => kp b o (by rw [l.u]; exact id) (by rw [l.h0]; exact e)) (OwnAt.ints (ns := [x]) ho)
  rcases hu with hu | hu
  · rw [l.u] at hu
    exact hu.elim
  · rw [l.h0] at hu
    exact hu
theorem fn_okBox (F : FunD K x qual params body scope [] [] f fd) (S : FnScope N ps scope) (hps : ps.length = 2)
    (h : ∀ (cdv : Value) (A : Around) (outer : List Env) (s : Shared) (H : Hp) (E : XK), Room k (A.deeper (envOfC qual scope s.heap.objs.size f cdv)) → XG true (A.deeper (envOfC qual scope s.heap.objs.size f cdv)) N →
      ∀ x : Int, So (bX Pr w K mg base N qual scope f cdv A outer s H E) (env0 [.list [.int x], .int 0] N.length) body (fun d => ∃ x y : Int, d = .list [.int x, .int y, .int 0] ∧ -(2 ^ 62) < y ∧ y < 2 ^ 62)) :
    FnOk Pr w K mg base CX0 (k + 1) f fd ps spBox := by
  refine F.ok S (fun vs H Q E ⟨a, x, e, _⟩ => by rw [e, hps]; rfl) fun cdv A outer s H vs Q E hr ⟨a, x, e, hs, q⟩ => ?_
  have g : XG true (A.deeper (envOfC qual scope s.heap.objs.size f cdv)) N := ⟨rfl, by have := hr.un; omega, hr.hd, S.nd⟩
  subst e
  have hd : DbAll (fun _ => False) H [.ref a, .int 0] [.list [.int x], .int 0] := .cons (.lst id ⟨by show 1 ≤ sizeLine; decide, hs⟩ (.cons (.int x) .nil)) (.cons (.int 0) .nil)
  refine ⟨_, PSs.nox (h cdv A outer s H E hr g x), ⟨fun _ => False, fun _ => False, fun _ => False, H, none⟩, renv0 hd (fun _ h => h.elim), fun c' H' q0 d l hu ho ⟨x, y, hd, h1, h2⟩ kp => ?_⟩
  subst hd
  refine q q0 H' ?_ (fun b o e => kp b o (by rw [l.u]; exact id) (by rw [l.h0]; exact e)) ⟨x, y, 0, OwnAt.ints (ns := [x, y, 0]) ho, by decide, by decide, h1, h2⟩
  rcases hu with hu | hu
  · rw [l.u] at hu
    exact hu.elim
  · rw [l.h0] at hu
    exact hu
end
end DL

namespace DL
open PySem PySem.Spec PyProof.Rows L2
/-- the name x stands for a def that keeps the promise sp -/
structure FnS (Pr : Program) (w : World) (K : PySem.W.Frag) (mg : Str → Option Value) (base : Heap) (x : Str) (k : Nat) (ps : List Str) (sp : Sp) : Prop where
  ex : ∃ (f : Addr) (fd : FuncData), FnOk Pr w K mg base CX0 k f fd ps sp ∧ mg x = some (.ref f) ∧ PySem.W.keepIn K (.ref f) = true ∧ Binds K fd ps []
def spLaw (K : PySem.W.Frag) : Sp := fun vs H Q _ => ∃ (a : Addr) (ns : List Int), vs = [.ref a] ∧ SqL K H a (ns.map V.int) ∧ ns.length ≤ 63 ∧ ∀ H', Q (.bl true) H'
def tLaw (K : PySem.W.Frag) (i : Nat) : TS := fun D σ H => ∃ (a : Addr) (ns : List Int), σ[0]? = some (some (.ref a)) ∧ SqL K H a (ns.map V.int) ∧ ns.length ≤ 63 ∧ ∀ q H2, Same H H2 → H q = none → UrnAt H2 q 0 → D.nx (σ.set i (some (.ref q))) H2
section
variable {X : Cx} {i k : Nat} {u xb xc xs : Str} {p0 p1 p2 p3 p4 p5 p6 p7 pos : Pos} {ps1 ps2 : List Str}
theorem ps_urn {k1 k2} (FB : FnS X.prog X.w X.K X.mg X.base xb k ps1 spBox) (FC : FnS X.prog X.w X.K X.mg X.base xc k ps2 (spCells X.K)) (hr : Room k X.A) (g : XG X.calm X.A X.N) (hi : X.N[i]? = some u := by rfl) (hN : X.N[0]? = some xs := by rfl)
    (hx : Loc X.env.scope u := by first | exact .inl rfl | exact .inr rfl) (hv : Vis X.env.scope xs := by first | exact Or.inl rfl | exact Or.inr (Or.inl rfl) | exact Or.inr (Or.inr rfl))
    (hd1 : (xs == ("__debug__" : Str)) = false := by decide) (hd2 : (xs == ("__classdict__" : Str)) = false := by decide) (hd3 : (xb == ("__debug__" : Str)) = false := by decide) (hd4 : (xc == ("__debug__" : Str)) = false := by decide)
    (hgb : Gl X xb := by rfl) (hgc : Gl X xc := by rfl)
    (hs1 : starEach [.Name xs p3, .Constant (.int 1) k1 p4] X.env = (false, eval (.Name xs p3) X.env) :: starEach [.Constant (.int 1) k1 p4] X.env := by rfl) (hs2 : starEach [.Constant (.int 1) k1 p4] X.env = (false, eval (.Constant (.int 1) k1 p4) X.env) :: starEach [] X.env := by rfl)
    (hs3 : starEach [.Call (.Name xc p2) [.Name xs p3, .Constant (.int 1) k1 p4] [] p5, .Constant (.int 0) k2 p6] X.env = (false, eval (.Call (.Name xc p2) [.Name xs p3, .Constant (.int 1) k1 p4] [] p5) X.env) :: starEach [.Constant (.int 0) k2 p6] X.env := by rfl) (hs4 : starEach [.Constant (.int 0) k2 p6] X.env = (false, eval (.Constant (.int 0) k2 p6) X.env) :: starEach [] X.env := by rfl)
    (hp1 : (backTo p5 (starEach [.Constant (.int 1) k1 p4] X.env)).any (·.1) = false := by rfl) (hp2 : (backTo p7 (starEach [.Constant (.int 0) k2 p6] X.env)).any (·.1) = false := by rfl)
    (hs : swapsWith (.Call (.Name xb p1) [.Call (.Name xc p2) [.Name xs p3, .Constant (.int 1) k1 p4] [] p5, .Constant (.int 0) k2 p6] [] p7) (some (.Name u p0)) pos.line X.env = pure false := by rfl)
    (hf : X.fn u = true ∨ X.env.scope.names.lookup u = some .local := by first | exact .inl rfl | exact .inr rfl | assumption) :
    PS X (.Assign [.Name u p0] (.Call (.Name xb p1) [.Call (.Name xc p2) [.Name xs p3, .Constant (.int 1) k1 p4] [] p5, .Constant (.int 0) k2 p6] [] p7) pos) (tLaw X.K i) := by
  obtain ⟨fb, fdb, hB, hmb, hkb, hbb⟩ := FB.ex
  obtain ⟨fc, fdc, hC, hmc, hkc, hbc⟩ := FC.ex
  refine PS_mono (ps_set (i := i) g.nd hi hx (pe_call hB hr hgb hmb hkb hbb .nil pass0 (pa_cons (pe_call hC hr hgc hmc hkc hbc .nil pass0 (pa_cons (pe_var hN hv hd1 hd2) (pa_cons pe_int pa_nil hs2) hs1) hd4 hs1 hp1) (pa_cons pe_int pa_nil hs4) hs3) hd3 hs3 hp2) hs hf) fun D σ H ⟨a, ns, h0, h1, h2, q⟩ => ?_
  refine ⟨_, h0, ?_⟩
  have key : spCells X.K [.ref a, .int 1] H (fun x H1 => spBox [x, .int 0] H1 (fun v H2 => gName i v σ H2 D.nx) E0) E0 :=
    ⟨a, ns, rfl, h1, h2, fun q1 x H1 hq1 s1 e1 => ⟨q1, x, rfl, e1, fun q2 H2 hq2 s2 u2 => q q2 H2 (s1.trans s2) (free_of_same s1 hq2) u2⟩⟩
  exact key
end
section
variable {Pr : Program} {w : World} {K : PySem.W.Frag} {mg : Str → Option Value} {base : Heap} {x qual : Str} {params : Arguments} {s1 : Stmt} {rest : List Stmt} {scope : Scope} {f : Addr} {fd : FuncData} {N : List Str} {k i : Nat}
theorem fn_okLaw (F : FunD K x qual params (s1 :: rest) scope [] [] f fd) (S : FnScope N ["script"] scope) (hi : i < N.length) (i0 : 0 < i)
    (h : ∀ (cdv : Value) (A : Around) (outer : List Env) (s : Shared) (H : Hp) (E : XK), Room k (A.deeper (envOfC qual scope s.heap.objs.size f cdv)) → XG true (A.deeper (envOfC qual scope s.heap.objs.size f cdv)) N →
      PS (bX Pr w K mg base N qual scope f cdv A outer s H E) s1 (tLaw K i) ∧ St (bX Pr w K mg base N qual scope f cdv A outer s H E) ((List.replicate N.length Slot.no).set i (.urn 0)) rest (fun _ => False) (fun d _ => d = .bool true)) :
    FnOk Pr w K mg base CX0 (k + 1) f fd ["script"] (spLaw K) := by
  refine F.ok S (fun vs H Q E ⟨a, ns, e, _⟩ => by rw [e]; rfl) fun cdv A outer s H vs Q E hr ⟨a, ns, e, hs, hl, q⟩ => ?_
  have g : XG true (A.deeper (envOfC qual scope s.heap.objs.size f cdv)) N := ⟨rfl, by have := hr.un; omega, hr.hd, S.nd⟩
  subst e
  obtain ⟨h1, h2⟩ := h cdv A outer s H E hr g
  refine ⟨_, PSs.nox (pss_cons h1 h2), a, ns, start_at rfl, hs, hl, fun q0 H2 s2 hq u => ?_⟩
  have sh : ∀ (j : Nat) (t : Slot), ((List.replicate N.length Slot.no).set i (.urn 0))[j]? = some t → t ≠ .no → j = i ∧ t = .urn 0 := fun j t e ne => by
    by_cases hij : i = j
    · subst hij
      rw [List.getElem?_set_self (by simpa using hi)] at e
      cases e
      exact ⟨rfl, rfl⟩
    · rw [List.getElem?_set_ne hij, List.getElem?_replicate] at e
      split at e <;> cases e
      exact absurd rfl ne
  have hlen : (L2.start N [V.ref a]).length = N.length := by
    unfold L2.start
    simp
    omega
  refine ⟨⟨fun _ => False, fun b => b = q0, fun _ => False, H, some q0⟩, ⟨?_, fun j d e => ?_, fun j d e => ?_, fun j j2 d e a' _ h1 _ _ _ => ?_, fun b hb => ?_, fun b q => q.elim, fun b o _ e => s2 _ _ e, fun j n e => ?_, fun j v S' e => ?_, fun j j2 n d a' e _ _ _ => ?_⟩, fun c' σ' H' Γ' l e E' => e.elim, fun c' σ' H' Γ' v d' l e E' hv => ?_⟩
  · simp [hlen]
  · cases (sh j _ e nofun).2
  · cases (sh j _ e nofun).2
  · cases (sh j _ h1 nofun).2
  · have hb' : b = q0 := hb
    subst hb'
    obtain ⟨x, y, z, e, _⟩ := u
    exact ⟨_, e, trivial⟩
  · obtain ⟨e1, e2⟩ := sh j _ e nofun
    subst e1
    cases e2
    exact ⟨q0, rfl, List.getElem?_set_self (by rw [hlen]; exact hi), rfl, fun z => z, .inr hq, u⟩
  · cases (sh j _ e nofun).2
  · cases (sh j _ e nofun).2
  · subst e
    cases hv
    exact q H'
end
end DL

namespace DL
open PySem PySem.Spec PyProof.Rows L2
/-! ### isinstance -/
def tyN : PyData → String
  | .none => "NoneType"
  | .bool _ => "bool"
  | .int _ => "int"
  | .str _ => "str"
  | .list _ => "list"
  | .tuple _ => "tuple"
  | .dict _ => "dict"
def isK (d : PyData) (T : String) : Bool := tyN d == T || (tyN d == "bool" && T == "int")
theorem kit_d (d : PyData) (T : String) (h : T ∈ ["int", "bool", "str", "list", "tuple", "dict"]) : kitB (tyN d) T = some (isK d T) := by
  have h2 : tyN d ∈ ["NoneType", "bool", "int", "str", "list", "tuple", "dict"] := by cases d <;> simp [tyN]
  unfold isK
  generalize tyN d = t at h2 ⊢
  simp only [List.mem_cons, List.not_mem_nil, or_false] at h h2
  rcases h with rfl | rfl | rfl | rfl | rfl | rfl <;> rcases h2 with rfl | rfl | rfl | rfl | rfl | rfl | rfl <;> decide +kernel
theorem Db.ty {B : Addr → Prop} {H : Hp} {v : V} {d : PyData} (K : PySem.W.Frag) (h : Db B H v d) : TyX K H v (.type (tyN d)) := by
  cases h with
  | non => exact .base .non
  | bl b => exact .base (.bl b)
  | int i => exact .base (.int i)
  | str x => exact .base (.str x)
  | lst nb e h => exact .base (.lst e.2)
  | tup e h =>
    obtain ⟨_, o, _, e⟩ := e
    exact .fTuple e
  | dK nb e h => exact .base (.dK e)
  | dT nb e h => exact .base (.dT e)
section
variable {X : Cx} {bz : Bool} {Γ : DEnv} {e : Expr} {pos p p1 p2 p3 : Pos} {d : PyData} {T T2 : String} {x x2 : Str}
theorem ev_isi (hm : X.mg "isinstance" = none) (ha : Ev bz X Γ e d) (hx : X.mg x = none) (hT : T ∈ ["int", "bool", "str", "list", "tuple", "dict"] := by decide) (hv : bootBuiltins x = some (.type T) := by decide +kernel) (hg : Gl X "isinstance" := by rfl) (hgx : Gl X x := by rfl)
    (hn : x ≠ "__name__" := by decide) (hd : (x == ("__debug__" : Str)) = false := by decide)
    (hs1 : starEach [e, .Name x p1] X.env = (false, eval e X.env) :: starEach [.Name x p1] X.env := by rfl) (hs2 : starEach [.Name x p1] X.env = (false, eval (.Name x p1) X.env) :: starEach [] X.env := by rfl)
    (hpl : (backTo pos (starEach [.Name x p1] X.env)).any (·.1) = false := by rfl) : Ev bz X Γ (.Call (.Name "isinstance" p) [e, .Name x p1] [] pos) (.bool (isK d T)) :=
  PE_mono (pe_callB call_isi hg hm PyProof.Rows.boot_isinstance (pa_cons ha (pa_cons (pe_bltn (v := .ty T) hgx hx hv rfl hn hd) pa_nil hs2) hs1) (by decide) (by decide) hs1 hpl) fun σ H Q ⟨c, R, k⟩ => ⟨c, R, fun v H1 s1 h1 =>
    ⟨v, .ty T, .type (tyN d), .type T, isK d T, rfl, .ty T, h1.ty X.K, kit_ty (kit_d d T hT), k _ H1 s1 (.bl _)⟩⟩
theorem ev_isi2 {kk : Nat} (hm : X.mg "isinstance" = none) (ha : Ev bz X Γ e d) (hx : X.mg x = none) (hx2 : X.mg x2 = none) (hT : T ∈ ["int", "bool", "str", "list", "tuple", "dict"] := by decide) (hT2 : T2 ∈ ["int", "bool", "str", "list", "tuple", "dict"] := by decide)
    (hv : bootBuiltins x = some (.type T) := by decide +kernel) (hv2 : bootBuiltins x2 = some (.type T2) := by decide +kernel) (hg : Gl X "isinstance" := by rfl) (hgx : Gl X x := by rfl) (hgx2 : Gl X x2 := by rfl)
    (hn : x ≠ "__name__" := by decide) (hd : (x == ("__debug__" : Str)) = false := by decide) (hn2 : x2 ≠ "__name__" := by decide) (hd2 : (x2 == ("__debug__" : Str)) = false := by decide)
    (hs1 : starEach [e, .Tuple [.Name x p1, .Name x2 p2] kk p3] X.env = (false, eval e X.env) :: starEach [.Tuple [.Name x p1, .Name x2 p2] kk p3] X.env := by rfl) (hs2 : starEach [.Tuple [.Name x p1, .Name x2 p2] kk p3] X.env = (false, eval (.Tuple [.Name x p1, .Name x2 p2] kk p3) X.env) :: starEach [] X.env := by rfl)
    (hs3 : starEach [.Name x p1, .Name x2 p2] X.env = (false, eval (.Name x p1) X.env) :: starEach [.Name x2 p2] X.env := by rfl) (hs4 : starEach [.Name x2 p2] X.env = (false, eval (.Name x2 p2) X.env) :: starEach [] X.env := by rfl)
    (hpl : (backTo pos (starEach [.Tuple [.Name x p1, .Name x2 p2] kk p3] X.env)).any (·.1) = false := by rfl) : Ev bz X Γ (.Call (.Name "isinstance" p) [e, .Tuple [.Name x p1, .Name x2 p2] kk p3] [] pos) (.bool (isK d T || isK d T2)) :=
  PE_mono (pe_callB call_isiT hg hm PyProof.Rows.boot_isinstance (pa_cons ha (pa_cons (pe_tup (pa_cons (pe_bltn (v := .ty T) hgx hx hv rfl hn hd) (pa_cons (pe_bltn (v := .ty T2) hgx2 hx2 hv2 rfl hn2 hd2) pa_nil hs4) hs3)) pa_nil hs2) hs1) (by decide) (by decide) hs1 hpl) fun σ H Q ⟨c, R, k⟩ => ⟨c, R, fun v H1 s1 h1 => by
    refine ⟨by show 2 ≤ sizeLine; decide, fun q hq => ?_⟩
    have s2 := same_new hq (.tup [V.ty T, V.ty T2])
    refine ⟨v, q, [.ty T, .ty T2], .type (tyN d), [.type T, .type T2], isK d T || isK d T2, rfl, upd_same, .cons (.ty T) (.cons (.ty T2) .nil), (h1.same s2).ty X.K, ?_, k _ _ (s1.trans s2) (.bl _)⟩
    refine kitAny_cons (kit_ty (kit_d d T hT)) (fun e => ?_) (fun e => by rw [e]; rfl)
    refine kitAny_cons (kit_ty (kit_d d T2 hT2)) (fun e2 => ?_) (fun e2 => by rw [e2]; simp)
    rw [e, e2]
    rfl⟩
end
/-! ### tuples in the place of lists, lists in the place of tuples -/
mutual
def tupD : PyData → PyData
  | .list ds => .tuple (tupAll ds)
  | .tuple ds => .tuple (tupAll ds)
  | d => d
def tupAll : List PyData → List PyData
  | [] => []
  | d :: ds => tupD d :: tupAll ds
end
mutual
def softD : PyData → PyData
  | .list ds => .list (softAll ds)
  | .tuple ds => .list (softAll ds)
  | d => d
def softAll : List PyData → List PyData
  | [] => []
  | d :: ds => softD d :: softAll ds
end
theorem tupAll_map : ∀ ds : List PyData, tupAll ds = ds.map tupD
  | [] => rfl
  | d :: ds => by rw [tupAll, tupAll_map ds, List.map_cons]
theorem softAll_map : ∀ ds : List PyData, softAll ds = ds.map softD
  | [] => rfl
  | d :: ds => by rw [softAll, softAll_map ds, List.map_cons]
end DL

namespace PySem.W
open PySem PySem.SeqAt PyProof.Rows PySem.Calls
section
variable {prog : Program} {w : World} {A : Around} {E : Value → Shared → Prop} {s : Shared}
theorem call_tuple_lt {Q : Value → Shared → Prop} {l b : Addr} {items items2 : Array Value} {e r : Nat → Bool} (hl : s.heap.IsTuple l items) (hb : s.heap.IsTuple b items2)
    (he : ∀ j (h1 : j < items.size) (h2 : j < items2.size), EqAt A.in1 s items[j] items2[j] (e j)) (hr : ∀ j (h1 : j < items.size) (h2 : j < items2.size), e j = false → RcLt A.in1 s items[j] items2[j] (r j))
    (h : Q (.bool (firstLt e r (decide (items.size < items2.size)) (List.range (min items.size items2.size)))) s) : wpAny (model prog w) A (call (.builtin "tuple.__lt__") [.ref l, .ref b]) Q E s := by
  obtain ⟨⟨cls, dd, data, sl⟩, ho, hc, n, hd⟩ := id hl
  obtain ⟨⟨cls2, dd2, data2, sl2⟩, ho2, hc2, n2, hd2⟩ := id hb
  simp only at hc hd hc2 hd2
  subst hc hd hc2 hd2
  exact call_meets F.slot_tuple_lt ⟨_, ho, rfl⟩ F.entry_tuple_lt (F.args_tuple_lt_2 _ _) (tuple_ltAt l b items items2 n n2 dd dd2 sl sl2 e r) ⟨ho, ho2, he, hr, h⟩
theorem oneLt_tup {xs ys : List PyData} {a b : Value} {as bs : List Addr} {Q : Bool → Shared → Prop} (ra : Reads s.heap a (.tuple xs) as) (rb : Reads s.heap b (.tuple ys) bs) (hal : alikeAll xs ys = true)
    (hu : A.units + min (PyData.tuple xs).depth (PyData.tuple ys).depth < cLine) (hq : Q (dataLt (.tuple xs) (.tuple ys)) s) : wpAny (model prog w) A (oneLt' true a b) Q E s := by
  cases ra with
  | @tuple l o vs n _ as₁ h1 h2 h3 h4 =>
    cases rb with
    | @tuple l' o' vs' n' _ bs₁ k1 k2 k3 k4 =>
      have n1 : vs.size = xs.length := by simpa using ReadsAll.length _ _ _ h4
      have n2 : vs'.size = ys.length := by simpa using ReadsAll.length _ _ _ k4
      rw [dataLt_tuple, ← firstLt_toks xs ys hal, ← n1, ← n2] at hq
      rw [oneLt'_eq]
      simp only [if_true]
      refine wpAny_bind (wpAny_cRoomFor (room_here hu) ?_)
      refine wpAny_bind (wpAny_callSpecialIfBound?_slot (T := "tuple") ⟨_, h1, h2⟩ F.slot_tuple_lt (call_tuple_lt (e := pairEq xs ys) (r := fun j => dataLt (xs.getD j .none) (ys.getD j .none)) ⟨_, h1, h2, _, h3⟩ ⟨_, k1, k2, _, k3⟩ (fun j j1 j2 => ?_) (fun j j1 j2 hj => ?_) ?_))
      · have := eqAt_alikeAll xs ys A.in1 s vs.toList vs'.toList _ _ h4 k4 hal (room_in hu) j (by simpa using j1) (by simpa using j2)
        simpa using this
      · have := rcLt_alikeAll xs ys A.in1 s vs.toList vs'.toList _ _ h4 k4 hal (room_in hu) j (by simpa using j1) (by simpa using j2) hj
        simpa using this
      · exact wpAny_truthy_bool hq
end
section
variable {M : Model} {A : Around} {E : Value → Shared → Prop} {s : Shared}
theorem first_tup {v : Value} {xs : List PyData} {as : List Addr} (ra : Reads s.heap v (.tuple xs) as) : ∃ o : Option Value, o.isSome = !xs.isEmpty ∧ ∀ Q : Option Value → Shared → Prop, Q o s → wpAny M A (firstOfTuple' v) Q E s := by
  cases ra with
  | @tuple l o vs n _ as₁ h1 h2 h3 h4 =>
    have n1 : vs.size = xs.length := by simpa using ReadsAll.length _ _ _ h4
    refine ⟨vs[0]?, ?_, fun Q hq => ?_⟩
    · cases xs with
      | nil => simp at n1; simp [n1]
      | cons x xs =>
        have : 0 < vs.size := by rw [n1]; simp
        rw [Array.getElem?_eq_getElem this]
        rfl
    · rw [kas_first_eq]
      refine wpAny_bind (Looks.here (show Looks M s.heap (typeOf (.ref l)) o.cls from (Looks.ld h1).andThen .now) ?_)
      rw [h2, if_neg (by first | decide | simp)]
      exact wpAny_bind (listItems_at h1 h3 (wpAny_pure hq))
theorem first_tups : ∀ {vs : List Value} {ds : List PyData}, EachIs (fun v d => ∃ as, Reads s.heap v d as) vs ds → (∀ d ∈ ds, ∃ xs, d = .tuple xs) → ∃ os : List (Option Value), os.map Option.isSome = ds.map (fun d => match d with | .tuple xs => !xs.isEmpty | _ => false) ∧ ∀ Q : List (Option Value) → Shared → Prop, Q os s → wpAny M A (vs.mapM firstOfTuple') Q E s
  | _, _, .nil, _ => ⟨[], rfl, fun Q hq => by rw [List.mapM_nil]; exact wpAny_pure hq⟩
  | _, _, .cons (b := d) ⟨as, r⟩ t, ht => by
    obtain ⟨os, h1, h2⟩ := first_tups t fun d hd => ht d (List.mem_cons_of_mem _ hd)
    obtain ⟨xs, rfl⟩ := ht d (List.mem_cons_self ..)
    obtain ⟨o, e1, e2⟩ := first_tup (M := M) (A := A) (E := E) r
    refine ⟨o :: os, by rw [List.map_cons, List.map_cons, h1, e1], fun Q hq => ?_⟩
    rw [List.mapM_cons]
    exact wpAny_bind (e2 _ (wpAny_bind (h2 _ (wpAny_pure hq))))
end
theorem SortsAt.tups {prog : Program} {w : World} {A : Around} {s : Shared} {vs : List Value} {ds : List PyData} (e : EachIs (fun v d => ∃ as, Reads s.heap v d as) vs ds) (hal : AllAlike ds) (hk : ∀ d ∈ ds, ∃ xs, d = .tuple xs) (hu : ∀ d, d ∈ ds → A.units + d.depth < cLine) : SortsAt prog w A s (dataKind s.heap ds) vs := by
  by_cases hne : ∀ d, d ∈ ds → ∃ x r, d = .tuple (x :: r)
  · exact SortsAt.data e hal (.inl hne) hu
  have room : ∀ {d d' : PyData}, d ∈ ds → A.units + min d.depth d'.depth < cLine := fun {d d'} hd => Nat.lt_of_le_of_lt (Nat.add_le_add_left (Nat.min_le_left _ _) _) (hu d hd)
  refine ⟨fun v hv => ?_, ?_⟩
  · obtain ⟨d, hd, as, r⟩ := e.left v hv
    exact ⟨_, dataKind_some hal hd r⟩
  have lt1 : H.LtAt prog w A s (dataKind s.heap ds) oneType' := by
    intro E x y a b Q ha hb hq
    obtain ⟨d, as, hd, ra, rfl⟩ := dataKind_inv ha
    obtain ⟨d', as', hd', rb, rfl⟩ := dataKind_inv hb
    have hr := room (d' := d') hd
    have ha2 := hal d hd d' hd'
    obtain ⟨xs, rfl⟩ := hk d hd
    obtain ⟨ys, rfl⟩ := hk d' hd'
    rw [keyLt'_oneType]
    exact oneLt_tup ra rb (by simpa [alike] using ha2) hr hq
  have lt0 : H.LtAt prog w A s (dataKind s.heap ds) general' := by
    intro E x y a b Q ha hb hq
    obtain ⟨d, as, hd, ra, rfl⟩ := dataKind_inv ha
    obtain ⟨d', as', hd', rb, rfl⟩ := dataKind_inv hb
    show wpAny (model prog w) A (oneLt' false x y) Q E s
    exact oneLt_alike (f := false) (fun z => nomatch z) ra rb (hal d hd d' hd') (by obtain ⟨xs, rfl⟩ := hk d hd; exact nofun) (room hd) hq
  cases ds with
  | nil => exact absurd (fun d hd => nomatch hd) hne
  | cons d₀ ds₀ =>
    obtain ⟨x0, h0⟩ := hk d₀ (List.mem_cons_self ..)
    have notall : ∀ os : List (Option Value), os.map Option.isSome = (d₀ :: ds₀).map (fun d => match d with | .tuple xs => !xs.isEmpty | _ => false) → (os.toArray.all fun x => x.isSome) = false := fun os h => by
      cases q : (os.toArray.all fun x => x.isSome) with
      | false => rfl
      | true =>
        exfalso
        refine hne fun d hd => ?_
        obtain ⟨xs, rfl⟩ := hk d hd
        have : (!xs.isEmpty) ∈ os.map Option.isSome := by rw [h]; exact List.mem_map.mpr ⟨_, hd, rfl⟩
        obtain ⟨o, ho, e⟩ := List.mem_map.mp this
        simp only [List.all_toArray, List.all_eq_true] at q
        rw [q o ho] at e
        cases xs with
        | nil => simp at e
        | cons x r => exact ⟨x, r, rfl⟩
    have hty : ∀ v ∈ vs, Looks (model prog w) s.heap (typeOf v) (.type "tuple") := fun v hv => by
      obtain ⟨d, hd, as, r⟩ := e.left v hv
      obtain ⟨xs, rfl⟩ := hk d hd
      exact looks_reads r
    by_cases hx : x0 = []
    · refine ⟨oneType', lt1, fun h2 E Q hq => ?_⟩
      obtain ⟨os, o1, o2⟩ := first_tups (M := model prog w) (A := A) (E := E) e hk
      rw [keyKind'_eq, List.mapM_toArray, map_eq_pure_bind]
      refine wpAny_bind (wpAny_bind (o2 _ (wpAny_pure ?_)))
      rw [notall os o1]
      simp only [Bool.false_eq_true, if_false]
      have e0 : (os.toArray[0]?.bind id).isSome = false := by
        cases os with
        | nil => simp at o1
        | cons o os =>
          simp only [List.map_cons, List.cons.injEq] at o1
          have := o1.1
          subst h0
          subst hx
          simp at this
          simp [this]
      rw [e0]
      simp only [Bool.false_eq_true, if_false]
      rw [oneTypeOnly'_eq, List.mapM_toArray, map_eq_pure_bind]
      refine wpAny_bind (wpAny_bind (wpAny_bind (kas_mapM (r := Value.type "tuple") _ (fun v hv Q' hq => (hty v hv).here hq) (wpAny_pure ?_))))
      have hall : ((List.map (fun _ => Value.type "tuple") vs).toArray.all fun x => x == Value.type "tuple") = true := by
        simp only [List.all_toArray, List.all_map, List.all_eq_true]
        intro _ _
        exact beq_self_eq_true (Value.type "tuple")
      have h00 : (List.map (fun _ => Value.type "tuple") vs).toArray[0]? = some (Value.type "tuple") := by
        cases vs with
        | nil => simp at h2
        | cons v vs => simp
      rw [h00]
      simp only [hall, if_true]
      exact wpAny_pure (wpAny_pure hq)
    · refine ⟨general', lt0, fun h2 E Q hq => ?_⟩
      obtain ⟨os, o1, o2⟩ := first_tups (M := model prog w) (A := A) (E := E) e hk
      rw [keyKind'_eq, List.mapM_toArray, map_eq_pure_bind]
      refine wpAny_bind (wpAny_bind (o2 _ (wpAny_pure ?_)))
      rw [notall os o1]
      simp only [Bool.false_eq_true, if_false]
      have e0 : (os.toArray[0]?.bind id).isSome = true := by
        cases os with
        | nil => simp at o1
        | cons o os =>
          simp only [List.map_cons, List.cons.injEq] at o1
          have := o1.1
          subst h0
          cases x0 with
          | nil => exact absurd rfl hx
          | cons x r => simpa using this
      rw [e0]
      simp only [if_true]
      exact wpAny_pure hq
end PySem.W
namespace DL
open PySem PySem.Spec PyProof.Rows L2
/-- what sorted asks -/
def srtC (bs : List PyData) : Prop := smallAll bs = true ∧ PySem.W.AllAlike bs ∧ ((∀ d ∈ bs, ∃ xs, d = .tuple xs) ∨ ∀ d, d ∈ bs → d ≠ .none ∧ ∀ xs, d ≠ .tuple xs)
def srtD (bs : List PyData) : List PyData := bs.mergeSort (PySem.W.dataLe false id)
theorem sortsAt {prog : Program} {w : World} {A : Around} {s : Shared} {vs : List Value} {ds : List PyData} (e : PySem.W.EachIs (fun v d => ∃ as, Reads s.heap v d as) vs ds) (h : srtC ds) (hu : A.units + 50 < cLine) : PySem.W.SortsAt prog w A s (PySem.W.dataKind s.heap ds) vs := by
  have hu' : ∀ d ∈ ds, A.units + d.depth < cLine := fun d hd => by
    have h1 := (smallAll_iff.mp h.1).2
    have : ∀ {ds : List PyData} {d : PyData}, d ∈ ds → d.depth ≤ PyData.depthAll ds := by
      intro ds
      induction ds with
      | nil => intro d hd; exact nomatch hd
      | cons x xs ih =>
        intro d hd
        rw [PyData.depthAll]
        rcases List.mem_cons.mp hd with rfl | hd
        · exact Nat.le_max_left _ _
        · exact Nat.le_trans (ih hd) (Nat.le_max_right _ _)
    have := this hd
    omega
  rcases h.2.2 with ht | hn
  · exact PySem.W.SortsAt.tups e h.2.1 ht hu'
  · exact PySem.W.SortsAt.data e h.2.1 (.inr hn) hu'
/-- values and data side by side -/
theorem each_of {B : Addr → Prop} {H : Hp} : ∀ {vs : List V} {ds : List PyData} {us : List Value}, DbAll B H vs ds → Vals vs us → PySem.W.EachIs (fun u (p : V × PyData) => RelV p.1 u ∧ Db B H p.1 p.2) us (vs.zip ds)
  | _, _, _, .nil, .nil => .nil
  | _, _, _, .cons h t, .cons r q => .cons ⟨r, h⟩ (each_of t q)
theorem of_each {B : Addr → Prop} {H : Hp} : ∀ {zs : List (V × PyData)} {us : List Value}, PySem.W.EachIs (fun u (p : V × PyData) => RelV p.1 u ∧ Db B H p.1 p.2) us zs → DbAll B H (zs.map (·.1)) (zs.map (·.2)) ∧ Vals (zs.map (·.1)) us
  | _, _, .nil => ⟨.nil, .nil⟩
  | _, _, .cons h t => ⟨.cons h.2 (of_each t).1, .cons h.1 (of_each t).2⟩
theorem each_reads {B : Addr → Prop} {X : Cx} {pins : List (Addr × Obj)} {σ : L2.St} {H : Hp} {s : Shared} (I : Inv X pins σ H s) : ∀ {zs : List (V × PyData)} {us : List Value}, PyData.plainAll (zs.map (·.2)) = true → PySem.W.EachIs (fun u (p : V × PyData) => RelV p.1 u ∧ Db B H p.1 p.2) us zs → PySem.W.EachIs (fun u (p : V × PyData) => ∃ as, Reads s.heap u p.2 as) us zs
  | _, _, _, .nil => .nil
  | _, _, hp, .cons h t => by
    simp only [List.map_cons, PyData.plainAll, Bool.and_eq_true] at hp
    exact .cons (h.2.reads I hp.1 h.1) (each_reads I hp.2 t)
theorem cr_sorted {X : Cx} (g : XG X.calm X.A X.N) : CallR X (.builtin "sorted") (rB fun ds d => ∃ bs : List PyData, ds = [.list bs] ∧ srtC bs ∧ d = .list (srtD bs)) := by
  rintro pins s σ H xs us Q I r ⟨B, ds, d, h, nb, ⟨bs, rfl, hc, rfl⟩, q⟩
  cases h with
  | cons h t =>
    cases t
    obtain ⟨u, rfl, ru⟩ := Vals.one r
    cases h with
    | @lst a vs _ nb1 e1 h =>
      cases ru
      obtain ⟨its, rv, pl, hz⟩ := I.list e1.sq
      have hlz : vs.length = bs.length := h.length
      have hm : (vs.zip bs).map (·.2) = bs := by
        rw [List.map_snd_zip]
        omega
      have hp : PyData.plainAll ((vs.zip bs).map (·.2)) = true := by rw [hm]; exact (smallAll_iff.mp hc.1).1
      have ea := each_of h rv
      have er := each_reads I hp ea
      have er' : PySem.W.EachIs (fun v (b : V × PyData) => ∃ as, Reads (PySem.W.sortingHeap (PySem.W.copyHeap s.heap its) (s.heap.objs.size + 1) its) v b.2 as) its (vs.zip bs) := er.mono fun _ _ ⟨as, r⟩ => ⟨as, PyProof.Rows.Reads.keeps (fun _ _ => PySem.W.sorting_copy_old) r⟩
      refine PySem.W.sorted_vals pl.isList (sortsAt (s := { s with heap := PySem.W.sortingHeap (PySem.W.copyHeap s.heap its) (s.heap.objs.size + 1) its }) (PySem.W.each_map (R := fun v d => ∃ as, Reads (PySem.W.sortingHeap (PySem.W.copyHeap s.heap its) (s.heap.objs.size + 1) its) v d as) (fun p : V × PyData => p.2) er') (by rw [hm]; exact hc) ?_) (by rw [← rv.length]; exact hz) ?_
      · have := g.un
        show X.A.units + 2 + 50 < cLine
        omega
      · have hs := PySem.W.sortVals_data (enc := fun p : V × PyData => p.2) false ea er' (by rw [hm]; exact hc.2.1)
        rw [hm] at hs ⊢
        generalize PySem.W.sortVals (PySem.W.dataKind (PySem.W.sortingHeap (PySem.W.copyHeap s.heap its) (s.heap.objs.size + 1) its) bs) false its its = out at hs ⊢
        have e3 : ((vs.zip bs).mergeSort (PySem.W.dataLe false fun p : V × PyData => p.2)).map (·.2) = srtD bs := by
          have := PySem.W.sort_maps (r := PySem.W.dataLe false fun p : V × PyData => p.2) (s := PySem.W.dataLe false id) (fun p : V × PyData => p.2) (l := vs.zip bs) fun a _ b _ => rfl
          rw [this, hm]
          rfl
        generalize ((vs.zip bs).mergeSort (PySem.W.dataLe false fun p : V × PyData => p.2)) = zs at hs e3
        obtain ⟨d1, d2⟩ := of_each hs
        obtain ⟨ep, he'⟩ := PyProof.Rows.sortedAll_at s.heap its out.toArray
        have hlen : (zs.map (·.1)).length ≤ sizeLine := by
          rw [d1.length, e3]
          unfold srtD
          rw [List.length_mergeSort, ← hlz]
          exact e1.1
        have hn : H (s.heap.objs.size + 1) = none := I.hok.fresh (Nat.le_succ _)
        refine ⟨.ref _, upd H (s.heap.objs.size + 1) (.lst (zs.map (·.1))), I.laid (t' := s.toks) (fun _ _ => PyProof.Rows.sortedAll_old) (Nat.le_succ _) ⟨hlen, out, ep, d2, he'⟩, rfl, q _ _ (same_new hn _) ?_⟩
        rw [← e3]
        exact .lst (fun z => nb _ z hn) (isL_new hlen) (d1.same (same_new hn _))
end DL

namespace DL
open PySem PySem.Spec PyProof.Rows L2

/-! ### strict total orders, sorting -/
structure TotL {α : Type} (lt : α → α → Bool) : Prop where
  irr : ∀ a, lt a a = false
  tr : ∀ a b c, lt a b = true → lt b c = true → lt a c = true
  tri : ∀ a b, a ≠ b → lt a b = true ∨ lt b a = true
section
variable {α β : Type} {lt : α → α → Bool}
theorem TotL.asym (T : TotL lt) {a b : α} (h : lt a b = true) : lt b a = false := by
  cases q : lt b a with
  | false => rfl
  | true =>
    have := T.tr a b a h q
    rw [T.irr] at this
    cases this
theorem TotL.anti (T : TotL lt) {a b : α} (h : lt a b = false) (h2 : lt b a = false) : a = b := by
  by_cases e : a = b
  · exact e
  · rcases T.tri a b e with q | q
    · rw [h] at q; cases q
    · rw [h2] at q; cases q
theorem TotL.letr (T : TotL lt) {a b c : α} (h : lt b a = false) (h2 : lt c b = false) : lt c a = false := by
  cases q : lt c a with
  | false => rfl
  | true =>
    exfalso
    by_cases e : a = b
    · subst e
      rw [q] at h2
      cases h2
    · rcases T.tri a b e with w | w
      · rw [T.tr c a b q w] at h2
        cases h2
      · rw [w] at h
        cases h
def ins (lt : α → α → Bool) (x : α) : List α → List α
  | [] => [x]
  | y :: ys => if lt y x = true then y :: ins lt x ys else x :: y :: ys
def srt (lt : α → α → Bool) : List α → List α
  | [] => []
  | x :: xs => ins lt x (srt lt xs)
def Asc (lt : α → α → Bool) (xs : List α) : Prop := xs.Pairwise fun a b => lt b a = false
theorem ins_perm (x : α) : ∀ ys : List α, (ins lt x ys).Perm (x :: ys)
  | [] => .refl _
  | y :: ys => by
    rw [ins]
    split
    · exact ((ins_perm x ys).cons y).trans (.swap x y ys)
    · exact .refl _
theorem srt_perm : ∀ xs : List α, (srt lt xs).Perm xs
  | [] => .refl _
  | x :: xs => (ins_perm x _).trans ((srt_perm xs).cons x)
theorem ins_asc (T : TotL lt) (x : α) : ∀ ys : List α, Asc lt ys → Asc lt (ins lt x ys)
  | [], _ => List.pairwise_singleton _ _
  | y :: ys, h => by
    obtain ⟨h1, h2⟩ := List.pairwise_cons.mp h
    rw [ins]
    split
    · rename_i q
      refine List.pairwise_cons.mpr ⟨fun z hz => ?_, ins_asc T x ys h2⟩
      rcases List.mem_cons.mp ((ins_perm x ys).mem_iff.mp hz) with rfl | hz
      · exact T.asym q
      · exact h1 z hz
    · rename_i q
      have q' : lt y x = false := by simpa using q
      refine List.pairwise_cons.mpr ⟨fun z hz => ?_, h⟩
      rcases List.mem_cons.mp hz with rfl | hz
      · exact q'
      · exact T.letr q' (h1 z hz)
theorem srt_asc (T : TotL lt) : ∀ xs : List α, Asc lt (srt lt xs)
  | [] => List.Pairwise.nil
  | x :: xs => ins_asc T x _ (srt_asc T xs)
theorem asc_uniq (T : TotL lt) : ∀ {xs ys : List α}, Asc lt xs → Asc lt ys → xs.Perm ys → xs = ys
  | [], ys, _, _, p => p.nil_eq
  | x :: xs, [], _, _, p => absurd p.symm.nil_eq (by simp)
  | x :: xs, y :: ys, h, k, p => by
    obtain ⟨h1, h2⟩ := List.pairwise_cons.mp h
    obtain ⟨k1, k2⟩ := List.pairwise_cons.mp k
    have e : x = y := by
      have hx : x ∈ y :: ys := p.mem_iff.mp List.mem_cons_self
      have hy : y ∈ x :: xs := p.mem_iff.mpr List.mem_cons_self
      rcases List.mem_cons.mp hx with q | q
      · exact q
      · rcases List.mem_cons.mp hy with w | w
        · exact w.symm
        · exact T.anti (k1 x q) (h1 y w) |>.symm ▸ rfl
    subst e
    rw [asc_uniq T h2 k2 p.cons_inv]
theorem srt_uniq (T : TotL lt) {xs ys : List α} (h : Asc lt xs) (p : xs.Perm ys) : xs = srt lt ys := asc_uniq T h (srt_asc T ys) (p.trans (srt_perm ys).symm)
theorem srt_id (T : TotL lt) {xs : List α} (h : Asc lt xs) : srt lt xs = xs := (srt_uniq T h (.refl _)).symm
theorem srt_congr (T : TotL lt) {xs ys : List α} (p : xs.Perm ys) : srt lt xs = srt lt ys := srt_uniq T (srt_asc T xs) ((srt_perm xs).trans p)
theorem srt_mem {x : α} {xs : List α} : x ∈ srt lt xs ↔ x ∈ xs := (srt_perm xs).mem_iff
theorem srt_len (xs : List α) : (srt lt xs).length = xs.length := (srt_perm xs).length_eq
/-- strictly ascending -/
def Ris (lt : α → α → Bool) (xs : List α) : Prop := xs.Pairwise fun a b => lt a b = true
theorem Ris.asc (T : TotL lt) {xs : List α} (h : Ris lt xs) : Asc lt xs := h.imp fun q => T.asym q
theorem Ris.nodup (T : TotL lt) {xs : List α} (h : Ris lt xs) : xs.Nodup := h.imp fun {a b} q e => by subst e; rw [T.irr] at q; cases q
theorem Asc.ris (T : TotL lt) {xs : List α} (h : Asc lt xs) (n : xs.Nodup) : Ris lt xs := by
  have := h.and n
  exact this.imp fun {a b} ⟨q, ne⟩ => (T.tri a b ne).elim id fun w => by rw [q] at w; cases w
theorem ris_ext (T : TotL lt) {xs ys : List α} (h : Ris lt xs) (k : Ris lt ys) (m : ∀ x, x ∈ xs ↔ x ∈ ys) : xs = ys :=
  asc_uniq T (h.asc T) (k.asc T) ((List.perm_ext_iff_of_nodup (h.nodup T) (k.nodup T)).mpr m)
/-- the order of lists -/
def ltL [DecidableEq α] (lt : α → α → Bool) : List α → List α → Bool
  | [], [] => false
  | [], _ :: _ => true
  | _ :: _, [] => false
  | x :: xs, y :: ys => if x = y then ltL lt xs ys else lt x y
theorem TotL.lst [DecidableEq α] (T : TotL lt) : TotL (ltL lt) where
  irr := fun a => by
    induction a with
    | nil => rfl
    | cons x xs ih => rw [ltL, if_pos rfl]; exact ih
  tr := fun a => by
    induction a with
    | nil =>
      intro b c h1 h2
      cases b with
      | nil => cases h1
      | cons y ys => cases c with
        | nil => cases h2
        | cons z zs => rfl
    | cons x xs ih =>
      intro b c h1 h2
      cases b with
      | nil => cases h1
      | cons y ys => cases c with
        | nil => cases h2
        | cons z zs =>
          rw [ltL] at h1 h2 ⊢
          by_cases e : x = y
          · subst e
            rw [if_pos rfl] at h1
            by_cases e2 : x = z
            · subst e2
              rw [if_pos rfl] at h2 ⊢
              exact ih _ _ h1 h2
            · rw [if_neg e2] at h2 ⊢
              exact h2
          · rw [if_neg e] at h1
            by_cases e2 : y = z
            · subst e2
              rw [if_neg e]
              exact h1
            · rw [if_neg e2] at h2
              have := T.tr x y z h1 h2
              rw [if_neg]
              · exact this
              · intro e3
                subst e3
                rw [T.asym h1] at h2
                cases h2
  tri := fun a => by
    induction a with
    | nil =>
      intro b h
      cases b with
      | nil => exact absurd rfl h
      | cons y ys => exact .inl rfl
    | cons x xs ih =>
      intro b h
      cases b with
      | nil => exact .inr rfl
      | cons y ys =>
        rw [ltL, ltL]
        by_cases e : x = y
        · subst e
          rw [if_pos rfl, if_pos rfl]
          exact ih ys fun q => h (by rw [q])
        · rw [if_neg e, if_neg (Ne.symm e)]
          exact T.tri x y e
def ltP [DecidableEq α] (lt : α → α → Bool) (lt2 : β → β → Bool) : α × β → α × β → Bool := fun p q => if p.1 = q.1 then lt2 p.2 q.2 else lt p.1 q.1
theorem TotL.pr [DecidableEq α] {lt2 : β → β → Bool} (T : TotL lt) (T2 : TotL lt2) : TotL (ltP lt lt2) where
  irr := fun a => by
    unfold ltP
    rw [if_pos rfl]
    exact T2.irr _
  tr := fun a b c h1 h2 => by
    unfold ltP at *
    by_cases e : a.1 = b.1
    · rw [if_pos e] at h1
      by_cases e2 : b.1 = c.1
      · rw [if_pos e2] at h2
        rw [if_pos (e.trans e2)]
        exact T2.tr _ _ _ h1 h2
      · rw [if_neg e2] at h2
        rw [if_neg (by rw [e]; exact e2), e]
        exact h2
    · rw [if_neg e] at h1
      by_cases e2 : b.1 = c.1
      · rw [if_neg (by rw [← e2]; exact e), ← e2]
        exact h1
      · rw [if_neg e2] at h2
        rw [if_neg]
        · exact T.tr _ _ _ h1 h2
        · intro e3
          rw [e3] at h1
          rw [T.asym h1] at h2
          cases h2
  tri := fun a b h => by
    unfold ltP
    by_cases e : a.1 = b.1
    · rw [if_pos e, if_pos e.symm]
      exact T2.tri _ _ fun q => h (Prod.ext e q)
    · rw [if_neg e, if_neg (Ne.symm e)]
      exact T.tri _ _ e
def ltI (a b : Int) : Bool := decide (a < b)
theorem totI : TotL ltI := ⟨fun a => by simp [ltI], fun a b c h k => by simp [ltI] at *; omega, fun a b h => by simp [ltI]; omega⟩
def ltNat (a b : Nat) : Bool := decide (a < b)
theorem totNat : TotL ltNat := ⟨fun a => by simp [ltNat], fun a b c h k => by simp [ltNat] at *; omega, fun a b h => by simp [ltNat]; omega⟩
def ltN (a b : Str) : Bool := ltL ltNat a.cps.toList b.cps.toList
theorem totN : TotL ltN := ⟨fun a => totNat.lst.irr _, fun a b c h k => totNat.lst.tr _ _ _ h k, fun a b h => totNat.lst.tri _ _ fun q => h (PySem.W.str_of_cps q)⟩
def ltB (a b : Bool) : Bool := !a && b
theorem totB : TotL ltB := ⟨fun a => by cases a <;> rfl, fun a b c h k => by cases a <;> cases b <;> cases c <;> simp_all [ltB], fun a b h => by cases a <;> cases b <;> simp_all [ltB]⟩
theorem ltNat_lt : ∀ xs ys : List Nat, ltL ltNat xs ys = decide (xs < ys)
  | [], [] => by simp [ltL]
  | [], y :: ys => by simp [ltL]
  | x :: xs, [] => by simp [ltL]
  | x :: xs, y :: ys => by
    rw [ltL, ltNat_lt xs ys]
    by_cases e : x = y
    · subst e
      simp
    · rw [if_neg e]
      simp [ltNat, List.cons_lt_cons_iff, e]
end
/-! ### the order of data, typed -/
structure OrdE {α : Type} (e : Enc α) (lt : α → α → Bool) : Prop where
  is : ∀ a b, PySem.W.dataLt (e.f a) (e.f b) = lt a b
  alike : ∀ a b, PySem.W.alike (e.f a) (e.f b) = true
  nn : ∀ a, e.f a ≠ .none
  tot : TotL lt
section
variable {α β : Type} {lt : α → α → Bool} {lt2 : β → β → Bool} {e : Enc α} {e2 : Enc β}
theorem oI : OrdE eI ltI := ⟨fun a b => PySem.W.dataLt_int a b, fun _ _ => rfl, fun _ => nofun, totI⟩
theorem oB : OrdE eB ltB := ⟨fun a b => by rw [show eB.f a = .bool a from rfl, show eB.f b = .bool b from rfl, PySem.W.dataLt_bool]; cases a <;> cases b <;> rfl, fun _ _ => rfl, fun _ => nofun, totB⟩
theorem oN : OrdE eN ltN := ⟨fun a b => by rw [show eN.f a = .str a from rfl, show eN.f b = .str b from rfl, PySem.W.dataLt_str, ltN, ltNat_lt], fun _ _ => rfl, fun _ => nofun, totN⟩
theorem OrdE.rows [DecidableEq α] (O : OrdE e lt) : ∀ xs ys : List α, PyProof.Rows.lexLt PyProof.Rows.itemOrd (PySem.W.keyToksAll (xs.map e.f)) (PySem.W.keyToksAll (ys.map e.f)) = ltL lt xs ys
  | [], [] => by simp [ltL, PySem.W.keyToksAll, PyProof.Rows.lex_irrefl]
  | [], y :: ys => by
    rw [List.map_cons, PySem.W.toks_all_cons]
    simp only [List.map_nil, PySem.W.keyToksAll]
    rw [PyProof.Rows.lex_diff (O := PyProof.Rows.itemOrd) (by simp)]
    simp [ltL, PyProof.Rows.itemLt]
  | x :: xs, [] => by
    rw [List.map_cons, PySem.W.toks_all_cons]
    simp only [List.map_nil, PySem.W.keyToksAll]
    rw [PyProof.Rows.lex_diff (O := PyProof.Rows.itemOrd) (by simp)]
    simp [ltL, PyProof.Rows.itemLt]
  | x :: xs, y :: ys => by
    rw [List.map_cons, List.map_cons, PySem.W.dataLt_cons (O.alike x y), OrdE.rows O xs ys, O.is, ltL]
    by_cases q : x = y
    · rw [if_pos q, if_pos ((e.eqv x y).mpr q)]
    · rw [if_neg q, if_neg (fun z => q ((e.eqv x y).mp z))]
theorem alikeAll_map (h : ∀ a b, PySem.W.alike (e.f a) (e.f b) = true) : ∀ xs ys : List α, PySem.W.alikeAll (xs.map e.f) (ys.map e.f) = true
  | [], _ => by simp [PySem.W.alikeAll]
  | x :: xs, [] => by simp [PySem.W.alikeAll]
  | x :: xs, y :: ys => by
    rw [List.map_cons, List.map_cons, PySem.W.alikeAll, h x y, alikeAll_map h xs ys]
    rfl
theorem OrdE.tup [DecidableEq α] (O : OrdE e lt) : OrdE (eT e) (ltL lt) := ⟨fun a b => by
  rw [show (eT e).f a = .tuple (a.map e.f) from rfl, show (eT e).f b = .tuple (b.map e.f) from rfl, PySem.W.dataLt_tuple, O.rows], fun a b => alikeAll_map O.alike a b, fun _ => nofun, O.tot.lst⟩
theorem OrdE.lst [DecidableEq α] (O : OrdE e lt) : OrdE (eL e) (ltL lt) := ⟨fun a b => by
  rw [show (eL e).f a = .list (a.map e.f) from rfl, show (eL e).f b = .list (b.map e.f) from rfl, PySem.W.dataLt_list, O.rows], fun a b => alikeAll_map O.alike a b, fun _ => nofun, O.tot.lst⟩
theorem OrdE.pr [DecidableEq α] [DecidableEq β] (O : OrdE e lt) (O2 : OrdE e2 lt2) : OrdE (eP e e2) (ltP lt lt2) := ⟨fun a b => by
  rw [show (eP e e2).f a = .tuple [e.f a.1, e2.f a.2] from rfl, show (eP e e2).f b = .tuple [e.f b.1, e2.f b.2] from rfl, PySem.W.dataLt_pair (O.alike _ _) (O2.alike _ _), O.is, O2.is]
  unfold ltP
  by_cases q : a.1 = b.1
  · rw [if_pos q, if_pos ((e.eqv _ _).mpr q)]
    split
    · rename_i w
      rw [(e2.eqv _ _).mp w, O2.tot.irr]
    · rfl
  · rw [if_neg q, if_neg (fun z => q ((e.eqv _ _).mp z))], fun a b => by
    show PySem.W.alike (.tuple [e.f a.1, e2.f a.2]) (.tuple [e.f b.1, e2.f b.2]) = true
    simp [PySem.W.alike, PySem.W.alikeAll, O.alike, O2.alike], fun _ => nofun, O.tot.pr O2.tot⟩
/-- sorted, of typed data -/
theorem OrdE.srtD (O : OrdE e lt) (xs : List α) : DL.srtD (xs.map e.f) = (srt lt xs).map e.f := by
  unfold DL.srtD
  have h1 := PySem.W.sort_maps (r := fun a b => !lt b a) (s := PySem.W.dataLe false id) e.f (l := xs) fun a _ b _ => by
    show (!lt b a) = (!PySem.W.dataLt (e.f b) (e.f a))
    rw [O.is]
  rw [← h1]
  congr 1
  refine srt_uniq O.tot ?_ (List.mergeSort_perm _ _)
  have := List.pairwise_mergeSort (le := fun a b => !lt b a) (fun a b c h k => by
    simp only [Bool.not_eq_true'] at *
    exact O.tot.letr h k) (fun a b => by
    by_cases q : lt b a = true
    · simp [q, O.tot.asym q]
    · simp [q]) xs
  exact this.imp fun q => by simpa using q
def minT (lt : α → α → Bool) (x : α) (xs : List α) : α := xs.foldl (fun a y => if lt y a = true then y else a) x
def maxT (lt : α → α → Bool) (x : α) (xs : List α) : α := xs.foldl (fun a y => if lt a y = true then y else a) x
theorem OrdE.minD (O : OrdE e lt) : ∀ (x : α) (xs : List α), PySem.W.minD (e.f x) (xs.map e.f) = e.f (minT lt x xs)
  | x, [] => rfl
  | x, y :: ys => by
    have ih := OrdE.minD O (if lt y x = true then y else x) ys
    unfold PySem.W.minD minT at *
    rw [List.map_cons, List.foldl_cons, List.foldl_cons, O.is, ← ih]
    congr 1
    split <;> rfl
theorem OrdE.maxD (O : OrdE e lt) : ∀ (x : α) (xs : List α), PySem.W.maxD (e.f x) (xs.map e.f) = e.f (maxT lt x xs)
  | x, [] => rfl
  | x, y :: ys => by
    have ih := OrdE.maxD O (if lt x y = true then y else x) ys
    unfold PySem.W.maxD maxT at *
    rw [List.map_cons, List.foldl_cons, List.foldl_cons, O.is, ← ih]
    congr 1
    split <;> rfl
theorem OrdE.srtC (O : OrdE e lt) (xs : List α) (hn : e.n ≤ 40) (ht : (∀ a, ∃ ys, e.f a = .tuple ys) ∨ ∀ a ys, e.f a ≠ .tuple ys) : DL.srtC (xs.map e.f) := ⟨e.smallAll xs hn, fun d hd d' hd' => by
  obtain ⟨a, _, rfl⟩ := List.mem_map.mp hd
  obtain ⟨b, _, rfl⟩ := List.mem_map.mp hd'
  exact O.alike a b, ht.imp (fun h d hd => by
    obtain ⟨a, _, rfl⟩ := List.mem_map.mp hd
    exact h a) fun h d hd => by
    obtain ⟨a, _, rfl⟩ := List.mem_map.mp hd
    exact ⟨O.nn a, h a⟩⟩
theorem OrdE.ordC (O : OrdE e lt) (xs : List α) (hn : e.n ≤ 40) : DL.ordC (xs.map e.f) := ⟨e.smallAll xs hn, fun d hd d' hd' => by
  obtain ⟨a, _, rfl⟩ := List.mem_map.mp hd
  obtain ⟨b, _, rfl⟩ := List.mem_map.mp hd'
  exact O.alike a b, fun d hd => by
  obtain ⟨a, _, rfl⟩ := List.mem_map.mp hd
  exact O.nn a⟩
end
end DL

namespace DL
open PySem PySem.Spec PyProof.Rows L2
section
variable {prog : Program} {w : World} {A : Around} {E : Value → Shared → Prop} {s : Shared} {z TI TO T i1 i2 : Addr} {fp1 fp2 : List Addr} {n1 n2 i : Nat} {P1 P2 : Nat → Value → Prop} {St1 St2 : Nat → Heap → Prop} {f : Bool} {oT : Obj}
theorem over' {A' : Around} {it : Addr} {fp : List Addr} {n : Nat} {P : Nat → Value → Prop} {St : Nat → Heap → Prop} {h h' : Heap} {c : Addr} {j : Nat} (D : Draws prog w A' it fp n P St) (st : St j h) (s : Heap.SameBut c h h') (hc : c ∉ fp) : St j h' := D.frame _ _ _ st fun b hb o e => s.extBut _ _ (fun q => hc (q ▸ hb)) e
theorem zipH_item {Q : Value → Shared → Prop} (S : ZipSep2 z TI TO i1 i2 fp1 fp2) (D1 : Draws prog w A i1 fp1 n1 P1 St1) (D2 : Draws prog w A i2 fp2 n2 P2 St2)
    (hz : IsZipHeld s.heap z TI TO T f) (hT : s.heap.get? T = some oT) (hTI : IsPair s.heap TI (.ref i1) (.ref i2)) (st1 : St1 i s.heap) (st2 : St2 i s.heap) (hlt1 : i < n1) (hlt2 : i < n2)
    (hQ : ∀ x y h' tk, P1 i x → P2 i y → IsZipHeld h' z TI TO T true → St1 (i + 1) h' → St2 (i + 1) h' → IsPair h' s.heap.objs.size x y → h'.objs.size = s.heap.objs.size + 1 →
      (∀ c o, c ≠ z → c ≠ i1 → c ≠ i2 → s.heap.get? c = some o → h'.get? c = some o) → Q (.ref s.heap.objs.size) { s with heap := h', toks := tk }) :
    wpAny (model prog w) A (Builtin.«zip.__next__» ⟨[.ref z], []⟩) (fun fin s' => ∃ v, fin = .done (.ret v) ∧ Q v s') E s := by
  have zi1 : z ≠ i1 := fun q => S.zf1 (q ▸ S.mem1)
  have zi2 : z ≠ i2 := fun q => S.zf2 (q ▸ S.mem2)
  show wpAny _ _ (field (.ref z) 2 >>= _) _ _ _
  refine wpAny_bind (wpAny_field hz rfl (x := .bool false) rfl ?_)
  show wpAny _ _ (field (.ref z) 3 >>= _) _ _ _
  refine wpAny_bind (wpAny_field hz rfl (x := .ref TI) rfl ?_)
  refine wpAny_bind (wpAny_seqItems hTI rfl ?_)
  show wpAny _ _ (Builtin.SmallTypes.ownedTupleIsFree (.ref z) >>= _) _ _ _
  refine wpAny_bind (wpAny_tupleHeld_zip hz hT fun h₁ hz₁ hs₁ => ?_)
  simp only [Bool.false_eq_true, if_false]
  refine wpAny_bind ?_
  rw [← Array.forIn_toList]
  simp only [List.forIn_cons, List.forIn_nil]
  refine wpAny_bind (wpAny_bind (wpAny_holding ?_))
  show wpAny _ _ (Builtin.SmallTypes.nextOf (.ref i1) >>= _) _ _ _
  refine wpAny_bind (D1.item i { s with heap := h₁ } _ _ hlt1 (over' D1 st1 hs₁ S.zf1) fun x h₂ tk1 px s1₂ hs₂ => wpAny_pure ?_)
  refine wpAny_pure ?_
  refine wpAny_bind (wpAny_bind (wpAny_holding ?_))
  show wpAny _ _ (Builtin.SmallTypes.nextOf (.ref i2) >>= _) _ _ _
  refine wpAny_bind (D2.item i { s with heap := h₂, toks := tk1 } _ _ hlt2 (over' D2 (over' D2 st2 hs₁ S.zf2) hs₂ S.sep1_2) fun y h₃ tk2 py s2₃ hs₃ => wpAny_pure ?_)
  refine wpAny_pure (wpAny_pure ?_)
  show wpAny _ _ (newTuple [x, y] >>= _) _ _ _
  refine wpAny_bind (wpAny_newTuple ?_)
  replace hs₂ : Heap.SameBut i1 h₁ h₂ := hs₂
  replace hs₃ : Heap.SameBut i2 h₂ h₃ := hs₃
  have hsz : h₃.objs.size = s.heap.objs.size := by rw [hs₃.1, hs₂.1, hs₁.1]
  have hz₃ : IsZipHeld h₃ z TI TO T true := hs₃.extBut _ _ zi2 (hs₂.extBut _ _ zi1 hz₁)
  have hk : ∀ c o, c ≠ z → c ≠ i1 → c ≠ i2 → s.heap.get? c = some o → h₃.get? c = some o := fun c o c1 c2 c3 e => hs₃.extBut _ _ c3 (hs₂.extBut _ _ c2 (hs₁.extBut _ _ c1 e))
  have s1₃ : St1 (i + 1) h₃ := over' D1 s1₂ hs₃ S.sep2_1
  refine wpAny_pure ⟨_, rfl, ?_⟩
  show Q (.ref h₃.objs.size) _
  have hp : IsPair (h₃.push { cls := .type "tuple", data := .seq #[x, y] }) h₃.objs.size x y := Heap.get?_push_size _ rfl
  have hz4 : (h₃.push { cls := .type "tuple", data := .seq #[x, y] }).objs.size = h₃.objs.size + 1 := Heap.size_push ..
  rw [hsz] at hp hz4 ⊢
  exact hQ x y _ tk2 px py (Heap.get?_push_of_some _ hz₃) (D1.frame _ _ _ s1₃ fun b _ o e => Heap.get?_push_of_some _ e) (D2.frame _ _ _ s2₃ fun b _ o e => Heap.get?_push_of_some _ e) hp hz4 fun c o c1 c2 c3 e => Heap.get?_push_of_some _ (hk c o c1 c2 c3 e)
theorem zipH_end {Q : Fin → Shared → Prop} (S : ZipSep2 z TI TO i1 i2 fp1 fp2) (D1 : Draws prog w A i1 fp1 n1 P1 St1) (D2 : Draws prog w A i2 fp2 n2 P2 St2)
    (hz : IsZipHeld s.heap z TI TO T f) (hT : s.heap.get? T = some oT) (hTI : IsPair s.heap TI (.ref i1) (.ref i2)) (st1 : St1 i s.heap) (st2 : St2 i s.heap) (hle1 : i ≤ n1) (hle2 : i ≤ n2) (hend : i = n1 ∨ i = n2)
    (hE : ∀ h' tk e, (∀ c o, c ≠ z → c ≠ i1 → c ≠ i2 → s.heap.get? c = some o → h'.get? c = some o) → (∃ o, h'.get? e = some o ∧ o.cls = .type "StopIteration") → E (.ref e) { s with heap := h', toks := tk }) :
    wpAny (model prog w) A (Builtin.«zip.__next__» ⟨[.ref z], []⟩) Q E s := by
  show wpAny _ _ (field (.ref z) 2 >>= _) _ _ _
  refine wpAny_bind (wpAny_field hz rfl (x := .bool false) rfl ?_)
  show wpAny _ _ (field (.ref z) 3 >>= _) _ _ _
  refine wpAny_bind (wpAny_field hz rfl (x := .ref TI) rfl ?_)
  refine wpAny_bind (wpAny_seqItems hTI rfl ?_)
  show wpAny _ _ (Builtin.SmallTypes.ownedTupleIsFree (.ref z) >>= _) _ _ _
  refine wpAny_bind (wpAny_tupleHeld_zip hz hT fun h₁ hz₁ hs₁ => ?_)
  simp only [Bool.false_eq_true, if_false]
  refine wpAny_bind ?_
  rw [← Array.forIn_toList]
  simp only [List.forIn_cons, List.forIn_nil]
  refine wpAny_bind (wpAny_bind (wpAny_holding ?_))
  show wpAny _ _ (Builtin.SmallTypes.nextOf (.ref i1) >>= _) _ _ _
  by_cases hlt1 : i < n1
  · have hi2 : i = n2 := by omega
    refine wpAny_bind (D1.item i { s with heap := h₁ } _ _ hlt1 (over' D1 st1 hs₁ S.zf1) fun x h₂ tk1 px s1₂ hs₂ => wpAny_pure ?_)
    refine wpAny_pure ?_
    refine wpAny_bind (wpAny_bind (wpAny_holding ?_))
    show wpAny _ _ (Builtin.SmallTypes.nextOf (.ref i2) >>= _) _ _ _
    refine wpAny_bind (D2.done { s with heap := h₂, toks := tk1 } _ _ (by rw [← hi2]; exact over' D2 (over' D2 st2 hs₁ S.zf2) hs₂ S.sep1_2) fun h₃ e hs₃ he => ?_)
    exact hE h₃ tk1 e (fun c o c1 c2 c3 x => hs₃ _ _ c3 (hs₂.extBut _ _ c2 (hs₁.extBut _ _ c1 x))) he
  · have hi1 : i = n1 := by omega
    refine wpAny_bind (D1.done { s with heap := h₁ } _ _ (by rw [← hi1]; exact over' D1 st1 hs₁ S.zf1) fun h₂ e hs₂ he => ?_)
    exact hE h₂ s.toks e (fun c o c1 c2 _ x => hs₂ _ _ c2 (hs₁.extBut _ _ c1 x)) he
theorem nextH_item {Q : Option Value → Shared → Prop} (S : ZipSep2 z TI TO i1 i2 fp1 fp2) (D1 : Draws prog w A.in1 i1 fp1 n1 P1 St1) (D2 : Draws prog w A.in1 i2 fp2 n2 P2 St2)
    (hz : IsZipHeld s.heap z TI TO T f) (hT : s.heap.get? T = some oT) (hTI : IsPair s.heap TI (.ref i1) (.ref i2)) (st1 : St1 i s.heap) (st2 : St2 i s.heap) (hlt1 : i < n1) (hlt2 : i < n2)
    (hQ : ∀ x y h' tk, P1 i x → P2 i y → IsZipHeld h' z TI TO T true → St1 (i + 1) h' → St2 (i + 1) h' → IsPair h' s.heap.objs.size x y → h'.objs.size = s.heap.objs.size + 1 →
      (∀ c o, c ≠ z → c ≠ i1 → c ≠ i2 → s.heap.get? c = some o → h'.get? c = some o) → Q (some (.ref s.heap.objs.size)) { s with heap := h', toks := tk }) :
    wpAny (model prog w) A (pyNext (.ref z)) Q E s := by
  have hTy : s.TypeIs (.ref z) "zip" := ⟨_, hz, rfl⟩
  unfold pyNext
  exact wpAny_bind (wpAny_attempt (wpAny_callSpecial?_slot (name := Str.ofString "__next__") hTy F.slot_zip_next
    (wpAny_call_entry F.slot_zip_next hTy F.entry_zip_next
      (zipH_item S D1 D2 hz hT hTI st1 st2 hlt1 hlt2 fun x y h' tk a0 b0 a1 a3 a4 a5 a6 a7 => wpAny_pure (hQ x y h' tk a0 b0 a1 a3 a4 a5 a6 a7)) (F.args_zip_next_1 _))))
theorem nextH_end {Q : Option Value → Shared → Prop} (S : ZipSep2 z TI TO i1 i2 fp1 fp2) (D1 : Draws prog w A.in1 i1 fp1 n1 P1 St1) (D2 : Draws prog w A.in1 i2 fp2 n2 P2 St2)
    (hz : IsZipHeld s.heap z TI TO T f) (hT : s.heap.get? T = some oT) (hTI : IsPair s.heap TI (.ref i1) (.ref i2)) (st1 : St1 i s.heap) (st2 : St2 i s.heap) (hle1 : i ≤ n1) (hle2 : i ≤ n2) (hend : i = n1 ∨ i = n2)
    (hQ : ∀ h' tk, (∀ c o, c ≠ z → c ≠ i1 → c ≠ i2 → s.heap.get? c = some o → h'.get? c = some o) → Q none { s with heap := h', toks := tk }) : wpAny (model prog w) A (pyNext (.ref z)) Q E s := by
  have hTy : s.TypeIs (.ref z) "zip" := ⟨_, hz, rfl⟩
  unfold pyNext
  refine wpAny_bind (wpAny_attempt (wpAny_callSpecial?_slot (name := Str.ofString "__next__") hTy F.slot_zip_next
    (wpAny_call_entry F.slot_zip_next hTy F.entry_zip_next (zipH_end S D1 D2 hz hT hTI st1 st2 hle1 hle2 hend fun h' tk e hk he => ?_) (F.args_zip_next_1 _))))
  obtain ⟨o, ho, hc⟩ := he
  refine wpAny_bind (wpAny_isInstance (T := "StopIteration") (b := true) ⟨o, ho, hc⟩ isSubtype_stop ?_)
  exact wpAny_pure (hQ _ _ hk)
end
end DL
namespace DL
open PySem PySem.Spec PyProof.Rows L2
section
variable {prog : Program} {w : World}
/-- zip of lists, tuples, as the argument of dict() -/
theorem pairArg_zip (b1 b2 : Bool) (z TI TO i1 i2 a1 a2 : Addr) (D : Sep2 z TI TO i1 i2 a1 a2) (xs ys : Array Value) :
    PairArg prog w "zip" z [z, TI, TO, i1, i2, a1, a2] [z, TO, i1, i2] (min xs.size ys.size) (fun i k v => xs[i]? = some k ∧ ys[i]? = some v)
      (fun h => IsZip h z TI TO .none ∧ IsPair h TI (.ref i1) (.ref i2) ∧ (∃ a b, IsPair h TO a b) ∧ ItA b1 h i1 a1 0 ∧ ItA b2 h i2 a2 0 ∧ IsA b1 h a1 xs ∧ IsA b2 h a2 ys) where
  type := fun s ok => ⟨_, ok.1, rfl⟩
  notDict := by decide
  keep := fun h h' ok hk => by
    obtain ⟨hz, hTI, ⟨a, b, hTO⟩, h1, h2, hl1, hl2⟩ := ok
    exact ⟨hk _ _ hz, hk _ _ hTI, ⟨a, b, hk _ _ hTO⟩, h1.at' fun o e => hk _ o e, h2.at' fun o e => hk _ o e, hl1.at' fun o e => hk _ o e, hl2.at' fun o e => hk _ o e⟩
  there := fun h ok b hb => by
    obtain ⟨hz, hTI, ⟨a, c, hTO⟩, h1, h2, hl1, hl2⟩ := ok
    obtain ⟨_, g1, _⟩ := h1.obj
    obtain ⟨_, g2, _⟩ := h2.obj
    have g3 : ∃ o, h.get? a1 = some o := by
      cases b1
      · obtain ⟨o, e, _⟩ := (show h.IsList a1 xs from hl1); exact ⟨o, e⟩
      · obtain ⟨o, e, _⟩ := (show h.IsTuple a1 xs from hl1); exact ⟨o, e⟩
    have g4 : ∃ o, h.get? a2 = some o := by
      cases b2
      · obtain ⟨o, e, _⟩ := (show h.IsList a2 ys from hl2); exact ⟨o, e⟩
      · obtain ⟨o, e, _⟩ := (show h.IsTuple a2 ys from hl2); exact ⟨o, e⟩
    simp only [List.mem_cons, List.not_mem_nil, or_false] at hb
    rcases hb with rfl | rfl | rfl | rfl | rfl | rfl | rfl
    · exact ⟨_, hz⟩
    · exact ⟨_, hTI⟩
    · exact ⟨_, hTO⟩
    · exact ⟨_, g1⟩
    · exact ⟨_, g2⟩
    · exact g3
    · exact g4
  sub := fun b hb => by simp at hb ⊢; rcases hb with rfl | rfl | rfl | rfl <;> simp
  noKeys := fun A s Q E hA ok h => getAttrOr_miss_zip ok.1 rfl rfl rfl zip_no_keys (by decide +kernel) hA h
  iter := fun A s d Q E hA ok hd hdf h => by
    obtain ⟨hz, hTI, ⟨a, b, hTO⟩, h1, h2, hl1, hl2⟩ := ok
    simp only [List.mem_cons, List.not_mem_nil, or_false, not_or] at hdf
    obtain ⟨dz, dTI, dTO, di1, di2, dl1, dl2⟩ := hdf
    have hA1 : A.in1.handled = none := hA
    have S := D.sep
    obtain ⟨⟨e1, e2, e3, e4, e5, e6, e7, e8, e9, e10⟩, dk⟩ := id D
    have D1 := drA (prog := prog) (w := w) (A := A.in1) hA1 b1 i1 a1 (dk i1 (by simp)).1.symm xs
    have D2 := drA (prog := prog) (w := w) (A := A.in1) hA1 b2 i2 a2 (dk i2 (by simp)).2.symm ys
    refine wpAny_pyIter_zip hz (h z [z, TO, i1, i2] (fun i h => IsPair h TI (.ref i1) (.ref i2) ∧ (ItA b1 h i1 a1 i ∧ IsA b1 h a1 xs) ∧ (ItA b2 h i2 a2 i ∧ IsA b2 h a2 ys) ∧
      ((IsZip h z TI TO .none ∧ ∃ a b, IsPair h TO a b) ∨ ∃ T f oT, IsZipHeld h z TI TO T f ∧ h.get? T = some oT ∧ T ≠ z ∧ T ≠ i1 ∧ T ≠ i2 ∧ T ≠ d)) s.heap s.toks ?_
      ⟨hTI, ⟨h1, hl1⟩, ⟨h2, hl2⟩, .inl ⟨hz, a, b, hTO⟩⟩ (fun _ _ e => e) fun b hb => .inl hb)
    exact {
      off := fun hm => by
        simp only [List.mem_cons, List.not_mem_nil, or_false] at hm
        rcases hm with e | e | e | e
        · exact dz e
        · exact dTO e
        · exact di1 e
        · exact di2 e
      frame := fun i h₁ h₂ st hk => by
        obtain ⟨hTI, ⟨h1, hl1⟩, ⟨h2, hl2⟩, hz⟩ := st
        refine ⟨hk _ _ (Ne.symm dTI) hTI, ⟨h1.at' fun o e => hk _ o (Ne.symm di1) e, hl1.at' fun o e => hk _ o (Ne.symm dl1) e⟩, ⟨h2.at' fun o e => hk _ o (Ne.symm di2) e, hl2.at' fun o e => hk _ o (Ne.symm dl2) e⟩, ?_⟩
        rcases hz with ⟨hz, a, b, hTO⟩ | ⟨T, f, oT, hz, hT, r1, r2, r3, r4⟩
        · exact .inl ⟨hk _ _ (Ne.symm dz) hz, a, b, hk _ _ (Ne.symm dTO) hTO⟩
        · exact .inr ⟨T, f, oT, hk _ _ (Ne.symm dz) hz, hk _ _ r4 hT, r1, r2, r3, r4⟩
      item := fun i s₁ Q₁ E₁ hi st hds hQ => by
        obtain ⟨hTI, st1, st2, hz⟩ := st
        have hix : i < xs.size := Nat.lt_of_lt_of_le hi (Nat.min_le_left ..)
        have hiy : i < ys.size := Nat.lt_of_lt_of_le hi (Nat.min_le_right ..)
        have lt : ∀ {c o}, s₁.heap.get? c = some o → s₁.heap.objs.size ≠ c := fun e => Nat.ne_of_gt (Heap.lt_size e)
        have n1 : s₁.heap.objs.size ≠ i1 := let ⟨_, e, _⟩ := st1.1.obj; lt e
        have n2 : s₁.heap.objs.size ≠ i2 := let ⟨_, e, _⟩ := st2.1.obj; lt e
        rcases hz with ⟨hz, a, b, hTO⟩ | ⟨T, f, oT, hz, hT, r1, r2, r3, r4⟩
        · refine wpAny_pyNext_zipD2_item S D1 D2 hz hTI hTO st1 st2 hix hiy fun x y h' tk ex ey a1' a2' a3 a4 a5 a6 hk => ?_
          exact hQ s₁.heap.objs.size _ _ h' tk ⟨ex, ey⟩ (.inl ⟨_, a5, rfl, _, rfl⟩)
            ⟨hk _ _ e1.symm e5 e6 e7 hTI, a3, a4, .inr ⟨s₁.heap.objs.size, false, _, a1', a5, lt hz, n1, n2, Nat.ne_of_gt hds⟩⟩
            fun c o hc e => hk c o (fun x => hc (by simp [x])) (fun x => hc (by simp [x])) (fun x => hc (by simp [x])) (fun x => hc (by simp [x])) e
        · refine nextH_item S D1 D2 hz hT hTI st1 st2 hix hiy fun x y h' tk ex ey a1' a3 a4 a5 a6 hk => ?_
          exact hQ s₁.heap.objs.size _ _ h' tk ⟨ex, ey⟩ (.inl ⟨_, a5, rfl, _, rfl⟩)
            ⟨hk _ _ e1.symm e6 e7 hTI, a3, a4, .inr ⟨T, true, oT, a1', hk _ _ r1 r2 r3 hT, r1, r2, r3, r4⟩⟩
            fun c o hc e => hk c o (fun x => hc (by simp [x])) (fun x => hc (by simp [x])) (fun x => hc (by simp [x])) e
      done := fun s₁ Q₁ E₁ st hQ => by
        obtain ⟨hTI, st1, st2, hz⟩ := st
        have hend : min xs.size ys.size = xs.size ∨ min xs.size ys.size = ys.size := by omega
        rcases hz with ⟨hz, a, b, hTO⟩ | ⟨T, f, oT, hz, hT, r1, r2, r3, r4⟩
        · exact wpAny_pyNext_zipD2_end S D1 D2 hz hTI hTO st1 st2 (Nat.min_le_left _ _) (Nat.min_le_right _ _) hend fun h' tk hk => hQ h' tk fun c o hc e => hk c o (fun x => hc (by simp [x])) (fun x => hc (by simp [x])) (fun x => hc (by simp [x])) (fun x => hc (by simp [x])) e
        · exact nextH_end S D1 D2 hz hT hTI st1 st2 (Nat.min_le_left _ _) (Nat.min_le_right _ _) hend fun h' tk hk => hQ h' tk fun c o hc e => hk c o (fun x => hc (by simp [x])) (fun x => hc (by simp [x])) (fun x => hc (by simp [x])) e }
end
/-- dict(zip(e1, e2)) -/
def tDZ (ta : TA) : TE := fun σ H Q => ta σ H fun vs H1 => ∃ (b1 b2 : Bool) (a1 a2 : Addr) (kvs : List (Key × V)), vs = [.ref a1, .ref a2] ∧ Sq b1 H1 a1 (kvs.map fun p => kV p.1) ∧ Sq b2 H1 a2 (kvs.map (·.2)) ∧ ∀ q, H1 q = none → Q (.ref q) (upd H1 q (.dK (mergeK [] kvs)))
theorem kv_of : ∀ {kvs : List (Key × V)} {us ws : List Value}, Vals (kvs.map fun p => kV p.1) us → Vals (kvs.map (·.2)) ws → ∃ prs : List (Key × Value), KV kvs prs ∧ prs.length = us.length ∧ us.length = ws.length ∧ ∀ (j : Nat) (k v : Value), us[j]? = some k → ws[j]? = some v → ∃ c, prs[j]? = some (c, v) ∧ RelV (kV c) k
  | [], _, _, .nil, .nil => ⟨[], .nil, rfl, rfl, fun j k v e => by simp at e⟩
  | kv :: kvs, _, _, .cons (b := u) r t, .cons (b := y) r2 t2 => by
    obtain ⟨prs, h1, h2, h3, h4⟩ := kv_of t t2
    refine ⟨(kv.1, y) :: prs, .cons ⟨rfl, r2⟩ h1, by simp [h2], by simp [h3], fun j k v e1 e2 => ?_⟩
    cases j with
    | zero =>
      simp at e1 e2
      subst e1
      subst e2
      exact ⟨kv.1, rfl, r⟩
    | succ j =>
      obtain ⟨c, q1, q2⟩ := h4 j k v (by simpa using e1) (by simpa using e2)
      exact ⟨c, by simpa using q1, q2⟩
theorem pe_dictZip {X : Cx} {e e2 : Expr} {ta : TA} {p p2 pos pos2 : Pos} (hc : X.calm = true) (hgd : Gl X "dict") (hmd : X.mg "dict" = none) (hg : Gl X "zip") (hm : X.mg "zip" = none) (ha : PA X [e, e2] ta)
    (hs : starEach [e, e2] X.env = (false, eval e X.env) :: starEach [e2] X.env := by rfl) (hpl : (backTo pos2 (starEach [e2] X.env)).any (·.1) = false := by rfl)
    (hs0 : starEach [.Call (.Name "zip" p2) [e, e2] [] pos2] X.env = (false, eval (.Call (.Name "zip" p2) [e, e2] [] pos2) X.env) :: starEach [] X.env := by rfl) (hpl0 : (backTo pos (starEach [] X.env)).any (·.1) = false := by rfl) :
    PE X (.Call (.Name "dict" p) [.Call (.Name "zip" p2) [e, e2] [] pos2] [] pos) (tDZ ta) := by
  refine ⟨fun pins s σ H R I h => ?_⟩
  refine Call_ (ld_blt I hgd hmd PyProof.Rows.boot_dict (PyProof.Rows.callWith_type1 ?_ hs0 hpl0))
  rw [hs0]
  show wpAny _ _ (spliced ((false, eval (.Call (.Name "zip" p2) [e, e2] [] pos2) X.env) :: backTo pos (starEach [] X.env))) _ _ s
  refine Calls.spliced_cons (Call_ (ld_blt I hg hm PyProof.Rows.boot_zip (PyProof.Rows.callWith_type1 (thn (ha.run pos2 pins s σ H _ I h) fun us s1 ⟨vs, H1, I1, r1, q1⟩ => ?_) hs hpl)))
  obtain ⟨b1, b2, a1, a2, kvs, ex, hqx, hqy, q⟩ := q1
  subst ex
  cases r1 with
  | cons r rr =>
    cases rr with
    | cons r' rr =>
      cases rr
      cases r
      cases r'
      obtain ⟨its, rv, p1, l0, l1⟩ := Sq.get I1 hqx
      obtain ⟨its2, rv2, p2', l0', l2⟩ := Sq.get I1 hqy
      obtain ⟨prs, k1, k2, k3, k4⟩ := kv_of rv rv2
      refine zip_begins2 (begA b1 a1 its.toArray) (begA b2 a2 its2.toArray) p1 p2' fun h' hz hTI hTO h1 h2 hsz hk => ?_
      refine Calls.spliced_nil ?_
      have P := pairArg_zip (prog := X.prog) (w := X.w) b1 b2 (s1.heap.objs.size + 4) (s1.heap.objs.size + 2) (s1.heap.objs.size + 3) s1.heap.objs.size (s1.heap.objs.size + 1) a1 a2 (sep2_of l1 l2) its.toArray its2.toArray
      refine PySem.call_dict_pairs (s := { s1 with heap := h' }) (knd := mixKind X.prog X.w) (kvs := prs) P (I1.ok.hd hc) ⟨hz, hTI, ⟨_, _, hTO⟩, itA_new b1 h1, itA_new b2 h2, p1.at' fun o e => hk _ o e, p2'.at' fun o e => hk _ o e⟩ ⟨by simp [k2, k3], fun i key v hr => ?_⟩ ?_ fun h'' tk hd' hk' => ?_
      · obtain ⟨c, z1, z2⟩ := k4 i key v (by simpa using hr.1) (by simpa using hr.2)
        exact ⟨c, z1, kV_is z2⟩
      · have : its.length ≤ sizeLine := by rw [← rv.length]; exact l0
        simp
        omega
      · have hsz' : ({ s1 with heap := h' } : Shared).heap.objs.size = s1.heap.objs.size + 5 := hsz
        rw [hsz'] at hd' ⊢
        have hm' : (s1.heap.objs.size + 5 == sysModules) = false := beq_eq_false_iff_ne.mpr (Nat.ne_of_gt (Nat.lt_of_lt_of_le I1.big (Nat.le_add_right _ _)))
        have hlen : (mergeK [] kvs).length ≤ sizeLine := by
          refine Nat.le_trans (length_mergeK kvs []) ?_
          rw [List.length_nil, Nat.zero_add]
          have := k1.length
          have e0 : kvs.length = its.length := by rw [this, k2]
          rw [e0, ← rv.length]
          exact l0
        have keep : ∀ b o, s1.heap.get? b = some o → h''.get? b = some o := fun b o e => by
          have hb := Heap.lt_size e
          refine hk' b o (fun hm => ?_) (hk b o e)
          simp only [List.mem_cons, List.not_mem_nil, or_false] at hm
          rcases hm with z | z | z | z <;> (refine absurd hb (Nat.not_lt.mpr ?_); rw [z]; first | exact Nat.le_refl _ | exact Nat.le_add_right _ _)
        exact ⟨.ref (s1.heap.objs.size + 5), upd H1 (s1.heap.objs.size + 5) (.dK (mergeK [] kvs)), I1.laid (t' := tk) keep (Nat.le_add_right _ _) (show ObjOk X.prog X.w _ _ _ (.dK (mergeK [] kvs)) from ⟨hlen, hm', merged [] prs, KV.merge k1 .nil, hd'⟩), rfl, q _ (I1.hok.fresh (Nat.le_add_right _ _))⟩
end DL

namespace DL
open PySem PySem.Spec PyProof.Rows L2

/-! ### methods of lists and tuples -/
def tyW (K : PySem.W.Frag) (T : String) (x : V) (H : Hp) : Prop := (T = "list" ∧ ∃ p xs, x = .ref p ∧ IsL H p xs) ∨ (T = "tuple" ∧ ∃ p xs, x = .ref p ∧ IsT H p xs)
theorem tyW_is {X : Cx} {pins : List (Addr × Obj)} {σ : L2.St} {H : Hp} {s : Shared} {T : String} {x : V} {v : Value} (I : Inv X pins σ H s) (r : RelV x v) (ty : tyW X.K T x H) :
    s.TypeIs v T ∧ ∀ a, v = .ref a → ∃ ob, s.heap.get? a = some ob ∧ ob.dict = none := by
  rcases ty with ⟨rfl, p, xs, rfl, h⟩ | ⟨rfl, p, xs, rfl, h⟩
  · cases r
    obtain ⟨its, _, pl, _⟩ := I.list h.sq
    refine ⟨pl.isList.typeIs, fun a e => ?_⟩
    cases e
    obtain ⟨o, n, e, c, hd, _⟩ := pl
    exact ⟨o, e, hd⟩
  · cases r
    obtain ⟨its, _, pl, _⟩ := I.tuple h.sq
    refine ⟨pl.typeIs, fun a e => ?_⟩
    cases e
    obtain ⟨_, o, hd, e⟩ := h
    obtain ⟨e1, _⟩ := (show ObjOk X.prog X.w H s.heap p (.frz o (.tup xs)) from I.hok p _ e)
    exact ⟨o, e1, hd⟩
/-- a method, by data -/
def rM (P : PyData → List PyData → PyData → Prop) : V → List V → Hp → VK → Prop := fun x vs H Q => ∃ (B : Addr → Prop) (d0 : PyData) (ds : List PyData) (d : PyData), Db B H x d0 ∧ DbAll B H vs ds ∧ (∀ b, B b → H b ≠ none) ∧ P d0 ds d ∧ ∀ v H', Same H H' → Db B H' v d → Q v H'
section
variable {X : Cx} {bz : Bool} {Γ : DEnv} {o e : Expr} {es : List Expr} {name : Str} {apos cpos : Pos} {T id : String} {d0 d : PyData} {ds : List PyData} {P : PyData → List PyData → PyData → Prop}
theorem ev_meth (pa : PlainAttrs T) (slot : PySem.Slot T name id) (hty : typeOf (.builtin id) = pure (.type "method_descriptor")) (hm : MtR X id (rM P)) (ho : Ev bz X Γ o d0) (ha : Av bz X Γ (e :: es) ds) (hp : P d0 ds d)
    (hT : (T = "list" ∧ ∃ l, d0 = .list l) ∨ (T = "tuple" ∧ ∃ l, d0 = .tuple l))
    (hbase : attributeBase o name X.env (eval o X.env) = eval o X.env := by rfl)
    (hfew : ((backTo cpos (starEach (e :: es) X.env)).all (fun x => !x.1) && (backToKw cpos (keywordEach [] X.env)).all (fun x => x.1.isSome)
      && decide ((e :: es).length + ([] : List Keyword).length + (if ([] : List Keyword).isEmpty then 0 else 1) < 30)) = true := by rfl)
    (hline : (apos.endLine == cpos.line) = true := by rfl) (hs : starEach (e :: es) X.env = (false, eval e X.env) :: starEach es X.env := by rfl) (hplain : (backTo cpos (starEach es X.env)).any (·.1) = false := by rfl) :
    Ev bz X Γ (.Call (.Attribute o name apos) (e :: es) [] cpos) d := by
  refine ⟨fun pins s σ H Q I ⟨c, R, k⟩ => ?_⟩
  refine wpAny_Call_method_late hbase hfew hline rfl (thn (ho.run pins s σ H (fun x H1 => Same H H1 ∧ Db (bn bz c) H1 x d0) I ⟨c, R, fun v H1 s1 h1 => ⟨s1, h1⟩⟩) fun v s1 ⟨x, H1, I1, r1, sm, h1⟩ => ?_)
  have ty : tyW X.K T x H1 := by
    rcases hT with ⟨e1, l, rfl⟩ | ⟨e1, l, rfl⟩
    · cases h1 with
      | lst nb r _ => exact .inl ⟨e1, _, _, rfl, r⟩
    · cases h1 with
      | tup r _ => exact .inr ⟨e1, _, _, rfl, r⟩
  obtain ⟨t1, t2⟩ := tyW_is I1 r1 ty
  refine ⟨T, id, pa, slot, hty, t1, t2, ?_⟩
  have hA := ha.run cpos pins s1 σ H1 (fun vs H2 => Same H1 H2 ∧ DbAll (bn bz c) H2 vs ds) I1 ⟨c, R.same sm, fun vs H2 s2 h2 => ⟨s2, h2⟩⟩
  rw [hs] at hA ⊢
  refine Calls.callWith_builtin (by show (false || (backTo cpos (starEach es X.env)).any (·.1)) = false; rw [hplain] <;> rfl) (Calls.evalArgs_plain ?_)
  exact thn hA fun us s2 ⟨vs, H2, I2, r2, q2, h2⟩ => hm pins s2 σ H2 x vs v us Q I2 r1 r2 ⟨bn bz c, d0, ds, d, h1.same q2, h2, fun b hb => by obtain ⟨o, e, _⟩ := (R.same (sm.trans q2)).muta b (bn_le R b hb); rw [e]; exact nofun, hp, fun w H3 s3 h3 => k w H3 ((sm.trans q2).trans s3) h3⟩
def cntD (ds : List PyData) (d : PyData) : Nat := ds.countP fun y => PyData.eqv y d
def pCount : PyData → List PyData → PyData → Prop := fun d0 ds d => ∃ l x, isSeq d0 l ∧ ds = [x] ∧ smallAll l = true ∧ small x = true ∧ d = .int (cntD l x : Nat)
def pIndex : PyData → List PyData → PyData → Prop := fun d0 ds d => ∃ l x j, isSeq d0 l ∧ ds = [x] ∧ smallAll l = true ∧ small x = true ∧ PySem.SeqAt.dataPlace l x = some j ∧ d = .int (j : Nat)
theorem units_ok {A : Around} (g : A.units + 200 < cLine) {l : List PyData} {x : PyData} (h1 : smallAll l = true) (h2 : small x = true) : A.units + 1 + min (PyData.depthAll l) x.depth < cLine := by
  have := (small_iff.mp h2).2
  omega
theorem mt_count (g : XG X.calm X.A X.N) : MtR X "tuple.count" (rM fun d0 ds d => (∃ l, d0 = .tuple l) ∧ pCount d0 ds d) := by
  rintro pins s σ H x xs v us Q I rx rxs ⟨B, d0, ds, d, h0, h, nb, ⟨⟨l, rfl⟩, l', y, hs, rfl, h1, h2, rfl⟩, q⟩
  have el : l' = l := by rcases hs with hs | hs <;> simp at hs; exact hs.symm
  subst el
  cases h with
  | cons hy t =>
    cases t
    obtain ⟨u, rfl, ru⟩ := Vals.one rxs
    obtain ⟨a, vs, its, as, rfl, rfl, ha, rv, ra, hz, hl⟩ := seq_reads I h0 hs (smallAll_iff.mp h1).1 rx
    cases h0 with
    | tup r0 h0 =>
      obtain ⟨its', rv', pl, _⟩ := I.tuple r0.sq
      obtain ⟨as', ra'⟩ := h0.reads I (smallAll_iff.mp h1).1 rv'
      obtain ⟨bs, rb⟩ := hy.reads I (small_iff.mp h2).1 ru
      exact PySem.SeqAt.count_tuple_data pl (by simpa using ra') rb (smallAll_iff.mp h1).1 (small_iff.mp h2).1 (units_ok g.un h1 h2) ⟨.int _, H, I.tok _, ⟨_, rfl⟩, q _ H (Same.refl H) (.int _)⟩
theorem ml_count (g : XG X.calm X.A X.N) : MtR X "list.count" (rM fun d0 ds d => (∃ l, d0 = .list l) ∧ pCount d0 ds d) := by
  rintro pins s σ H x xs v us Q I rx rxs ⟨B, d0, ds, d, h0, h, nb, ⟨⟨l, rfl⟩, l', y, hs, rfl, h1, h2, rfl⟩, q⟩
  have el : l' = l := by rcases hs with hs | hs <;> simp at hs; exact hs.symm
  subst el
  cases h with
  | cons hy t =>
    cases t
    obtain ⟨u, rfl, ru⟩ := Vals.one rxs
    cases h0 with
    | lst nb0 r0 h0 =>
      cases rx
      obtain ⟨its', rv', pl, _⟩ := I.list r0.sq
      obtain ⟨as', ra'⟩ := h0.reads I (smallAll_iff.mp h1).1 rv'
      obtain ⟨bs, rb⟩ := hy.reads I (small_iff.mp h2).1 ru
      exact PySem.SeqAt.count_list_data pl.isList (by simpa using ra') rb (smallAll_iff.mp h1).1 (small_iff.mp h2).1 (units_ok g.un h1 h2) ⟨.int _, H, I.tok _, ⟨_, rfl⟩, q _ H (Same.refl H) (.int _)⟩
theorem mt_index (g : XG X.calm X.A X.N) : MtR X "tuple.index" (rM fun d0 ds d => (∃ l, d0 = .tuple l) ∧ pIndex d0 ds d) := by
  rintro pins s σ H x xs v us Q I rx rxs ⟨B, d0, ds, d, h0, h, nb, ⟨⟨l, rfl⟩, l', y, j, hs, rfl, h1, h2, hj, rfl⟩, q⟩
  have el : l' = l := by rcases hs with hs | hs <;> simp at hs; exact hs.symm
  subst el
  cases h with
  | cons hy t =>
    cases t
    obtain ⟨u, rfl, ru⟩ := Vals.one rxs
    cases h0 with
    | tup r0 h0 =>
      cases rx
      obtain ⟨its', rv', pl, _⟩ := I.tuple r0.sq
      obtain ⟨as', ra'⟩ := h0.reads I (smallAll_iff.mp h1).1 rv'
      obtain ⟨bs, rb⟩ := hy.reads I (small_iff.mp h2).1 ru
      have rs : ReadsAll s.heap its'.toArray.toList l' as' := by simpa using ra'
      obtain ⟨hj', hit, hno⟩ := PySem.SeqAt.hit_at rs (smallAll_iff.mp h1).1 hj
      obtain ⟨⟨cls, dd, data, sl⟩, ho, hc, n, hd'⟩ := id pl
      simp only at hc hd'
      subst hc hd'
      have gd : ∀ m (hm : m < its'.toArray.size), its'.toArray.getD m .none = its'.toArray[m] := fun m hm => by
        have hm' : m < its'.length := by simpa using hm
        simp [Array.getD, hm']
      exact PySem.call_meets PySem.F.slot_tuple_index ⟨_, ho, rfl⟩ PySem.F.entry_tuple_index (PySem.F.args_tuple_index_2 _ _) (PySem.SeqAt.tuple_index2_found _ its'.toArray n dd sl u (fun m => PyData.eqv (PySem.SeqAt.readOf s.heap (its'.toArray.getD m .none)) y) j hj' (Nat.zero_le _) hj'
        (by rw [gd j hj']; exact hit) fun m hm _ hmj => by rw [gd m hm]; exact hno m hm hmj)
        ⟨ho, fun m hm => by rw [gd m hm]; exact PySem.SeqAt.items_plain rs rb (smallAll_iff.mp h1).1 (small_iff.mp h2).1 (units_ok g.un h1 h2) _ (Array.getElem_mem hm), ⟨.int _, H, I.tok _, ⟨_, rfl⟩, q _ H (Same.refl H) (.int _)⟩⟩
end

/-! ### sum -/
theorem sum_tup {prog : Program} {w : World} {A : Around} {E : Value → Shared → Prop} {s : Shared} {l : Addr} {its : List Value} {ns : List Int} {Q : Value → Shared → Prop} (hh : A.handled = none) (hl : s.heap.IsTuple l its.toArray) (hi : IntsAre its ns)
    (h : ∀ h' tk t', (∀ b o, s.heap.get? b = some o → h'.get? b = some o) → Q (.int ns.sum t') { s with heap := h', toks := tk }) : wpAny (model prog w) A (call (.builtin "sum") [.ref l]) Q E s := by
  obtain ⟨xs, e⟩ := hi.allInts.items
  have hn : numsOf (intItems xs).toList = ns := by rw [← e]; exact hi.numsOf
  rw [nums_intItems] at hn
  rw [e] at hl
  have hlt : l < s.heap.objs.size := by obtain ⟨_, q, _⟩ := hl; exact Heap.lt_size q
  refine call_sum_walkG (wpAny_pyIter_tuple hl ?_)
  have hsz : (s.heap.push { cls := .type "tuple_iterator", data := .fields #[.ref l, .int 0 0] }).objs.size = s.heap.objs.size + 1 := Heap.size_push ..
  refine ⟨_, _, _, _, _, _, numAt xs, rfl, Walks.tuple (A := A.in1) hh s.heap.objs.size l (Nat.ne_of_lt hlt) (intItems xs), ⟨⟨_, Heap.get?_push_size _ rfl, rfl, rfl⟩, hl.push _⟩, fun b hb => ?_, fun _ _ => intItems_at, fun h' tk t' hk => ?_⟩
  · show b < (s.heap.push _).objs.size
    rw [hsz]
    rcases List.mem_cons.mp hb with rfl | hb
    · exact Nat.lt_succ_self _
    · rcases List.mem_cons.mp hb with rfl | hb
      · exact Nat.lt_succ_of_lt hlt
      · exact nomatch hb
  · have := h h' tk t' fun b o e => hk b o (fun z => by
      rcases List.mem_cons.mp z with rfl | z
      · exact absurd (Heap.lt_size e) (Nat.lt_irrefl _)
      · exact nomatch z) (Heap.get?_push_of_some _ e)
    have e2 : (intItems xs).size = xs.size := by simp [intItems]
    rw [e2, preSum_eq, List.take_of_length_le (by simp), hn]
    exact this
theorem cr_sumS {X : Cx} (g : XG X.calm X.A X.N) : CallR X (.builtin "sum") (rB fun ds d => ∃ (e : PyData) (ns : List Int), ds = [e] ∧ isSeq e (ns.map .int) ∧ d = .int ns.sum) := by
  rintro pins s σ H xs us Q I r ⟨B, ds, d, h, nb, ⟨e, ns, rfl, hs, rfl⟩, q⟩
  cases h with
  | cons h t =>
    cases t
    have vi : ∀ (ns : List Int) (vs : List V), DbAll B H vs (ns.map .int) → vs = ns.map V.int := by
      intro ns
      induction ns with
      | nil => intro vs h; cases h; rfl
      | cons n ns ih =>
        intro vs h
        cases h with
        | cons h t => cases h; rw [ih _ t]; rfl
    obtain ⟨u, rfl, ru⟩ := Vals.one r
    rcases hs with rfl | rfl
    · cases h with
      | lst nb0 r0 h0 =>
        have := vi _ _ h0
        subst this
        exact cr_sum g.calm pins s σ H _ _ Q I r ⟨_, ns, rfl, r0.sq, q _ H (Same.refl H) (.int _)⟩
    · cases h with
      | tup r0 h0 =>
        have := vi _ _ h0
        subst this
        cases ru
        obtain ⟨its, rv, pl, _⟩ := I.tuple r0.sq
        exact sum_tup (I.ok.hd g.calm) pl rv.ints fun h' tk t' hk => ⟨.int _, H, I.kept hk, ⟨_, rfl⟩, q _ H (Same.refl H) (.int _)⟩
end DL

namespace DL
open PySem PySem.Spec PyProof.Rows L2

/-! ### zip of three -/
def Jz3 (b1 b2 b3 : Bool) (a1 a2 a3 : Addr) : It :=
  ⟨fun i H => ∃ (xs ys us : List V) (x y u : V), Sq b1 H a1 xs ∧ Sq b2 H a2 ys ∧ Sq b3 H a3 us ∧ xs[i]? = some x ∧ ys[i]? = some y ∧ us[i]? = some u,
    fun i H v H' => ∃ T x y u o, v = .ref T ∧ H T = none ∧ o.dict = none ∧ H' = upd H T (.frz o (.tup [x, y, u])) ∧ (∀ xs, Sq b1 H a1 xs → xs[i]? = some x) ∧ (∀ ys, Sq b2 H a2 ys → ys[i]? = some y) ∧ ∀ us, Sq b3 H a3 us → us[i]? = some u,
    fun i H => ∃ xs ys us : List V, Sq b1 H a1 xs ∧ Sq b2 H a2 ys ∧ Sq b3 H a3 us ∧ i ≤ xs.length ∧ i ≤ ys.length ∧ i ≤ us.length ∧ (i = xs.length ∨ i = ys.length ∨ i = us.length)⟩
structure Sep3 (z TI TO i1 i2 i3 a1 a2 a3 : Addr) : Prop where
  d : z ≠ TI ∧ z ≠ TO ∧ z ≠ i1 ∧ z ≠ i2 ∧ z ≠ i3 ∧ TI ≠ TO ∧ TI ≠ i1 ∧ TI ≠ i2 ∧ TI ≠ i3 ∧ TO ≠ i1 ∧ TO ≠ i2 ∧ TO ≠ i3 ∧ i1 ≠ i2 ∧ i1 ≠ i3 ∧ i2 ≠ i3
  a : ∀ c, c = z ∨ c = TI ∨ c = TO ∨ c = i1 ∨ c = i2 ∨ c = i3 → c ≠ a1 ∧ c ≠ a2 ∧ c ≠ a3
theorem Sep3.sep {z TI TO i1 i2 i3 a1 a2 a3 : Addr} (D : Sep3 z TI TO i1 i2 i3 a1 a2 a3) : ZipSep3 z TI TO i1 i2 i3 [i1, a1] [i2, a2] [i3, a3] := by
  obtain ⟨⟨h1, h2, h3, h4, h5, h6, h7, h8, h9, g1, g2, g3, g4, g5, g6⟩, k⟩ := D
  have kz := k z (by simp)
  have kTO := k TO (by simp)
  have k1 := k i1 (by simp)
  have k2 := k i2 (by simp)
  have k3 := k i3 (by simp)
  exact { TIz := h1.symm, TOz := h2.symm, TITO := h6, TIi1 := h7, mem1 := (by simp), zf1 := by simp [h3, kz.1], Tf1 := by simp [g1, kTO.1], TIi2 := h8, mem2 := (by simp), zf2 := by simp [h4, kz.2.1], Tf2 := by simp [g2, kTO.2.1], TIi3 := h9, mem3 := (by simp), zf3 := by simp [h5, kz.2.2], Tf3 := by simp [g3, kTO.2.2], sep1_2 := by simp [g4, k1.2.1], sep1_3 := by simp [g5, k1.2.2], sep2_1 := by simp [g4.symm, k2.1], sep2_3 := by simp [g6, k2.2.2], sep3_1 := by simp [g5.symm, k3.1], sep3_2 := by simp [g6.symm, k3.2.1] }
theorem sep3_of {n a1 a2 a3 : Nat} (h1 : a1 < n) (h2 : a2 < n) (h3 : a3 < n) : Sep3 (n + 5) (n + 3) (n + 4) n (n + 1) (n + 2) a1 a2 a3 := by
  refine ⟨⟨?_, ?_, ?_, ?_, ?_, ?_, ?_, ?_, ?_, ?_, ?_, ?_, ?_, ?_, ?_⟩, fun c hc => ?_⟩
  all_goals first
    | (show (_ : Nat) ≠ _; omega)
    | (rcases hc with e | e | e | e | e | e <;> (rw [e]; refine ⟨?_, ?_, ?_⟩ <;> (show (_ : Nat) ≠ _; omega)))
theorem turn_z3 {P : Program} {w : World} {K : PySem.W.Frag} {elts : List Expr} {kk : Nat} {tpos : Pos} {b1 b2 b3 : Bool} {a1 a2 a3 z TI TO i1 i2 i3 : Addr} (D : Sep3 z TI TO i1 i2 i3 a1 a2 a3) :
    Turn P w K (.Tuple elts kk tpos) (Jz3 b1 b2 b3 a1 a2 a3) [z, TI, TO, i1, i2, i3] z (fun i h => IsZip h z TI TO .none ∧ IsTupOf3 h TI (.ref i1) (.ref i2) (.ref i3) ∧ (∃ x y u, IsTupOf3 h TO x y u) ∧ ItA b1 h i1 a1 i ∧ ItA b2 h i2 a2 i ∧ ItA b3 h i3 a3 i) where
  mem := by simp
  obj := fun i h st c hc => by
    obtain ⟨hz, hTI, ⟨x, y, u, hTO⟩, h1, h2, h3⟩ := st
    have e' : c = z ∨ c = TI ∨ c = TO ∨ c = i1 ∨ c = i2 ∨ c = i3 := by simpa using hc
    rcases e' with q | q | q | q | q | q
    · rw [q]; exact ⟨_, hz, fun v q => nomatch q⟩
    · rw [q]; exact ⟨_, hTI, fun v q => nomatch q⟩
    · rw [q]; exact ⟨_, hTO, fun v q => nomatch q⟩
    · rw [q]; exact h1.obj
    · rw [q]; exact h2.obj
    · rw [q]; exact h3.obj
  keep := fun i h h' st k => by
    obtain ⟨hz, hTI, ⟨x, y, u, hTO⟩, h1, h2, h3⟩ := st
    exact ⟨k z (by simp) _ hz, k TI (by simp) _ hTI, ⟨x, y, u, k TO (by simp) _ hTO⟩, h1.at' fun o q => k i1 (by simp) o q, h2.at' fun o q => k i2 (by simp) o q, h3.at' fun o q => k i3 (by simp) o q⟩
  item := by
    intro X hP hw hK hc i pins s σ H E I hf st hg
    subst hP hw hK
    obtain ⟨hz, hTI, ⟨x0, y0, u0, hTO⟩, h1, h2, h3⟩ := st
    obtain ⟨xs, ys, us, x, y, v, hqx, hqy, hqu, hx, hy, hv⟩ := hg
    obtain ⟨its, rv, p, _, _⟩ := Sq.get I hqx
    obtain ⟨its2, rv2, p2, _, _⟩ := Sq.get I hqy
    obtain ⟨its3, rv3, p3, _, _⟩ := Sq.get I hqu
    obtain ⟨u, hu, ru⟩ := rv.get hx
    obtain ⟨u2, hu2, ru2⟩ := rv2.get hy
    obtain ⟨u3, hu3, ru3⟩ := rv3.get hv
    have hzl : z < s.heap.objs.size := Heap.lt_size hz
    have hh : X.A.in1.handled = none := I.ok.hd hc
    obtain ⟨⟨d1, d2, d3, d4, d5, d6, d7, d8, d9, e1, e2, e3, e4, e5, e6⟩, dk⟩ := id D
    refine wpAny_pyNext_zipD3_item D.sep (drA hh b1 i1 a1 (dk i1 (by simp)).1.symm its.toArray) (drA hh b2 i2 a2 (dk i2 (by simp)).2.1.symm its2.toArray) (drA hh b3 i3 a3 (dk i3 (by simp)).2.2.symm its3.toArray) hz hTI hTO ⟨h1, p⟩ ⟨h2, p2⟩ ⟨h3, p3⟩
      (by have := (List.getElem?_eq_some_iff.mp hu).1; simpa using this) (by have := (List.getElem?_eq_some_iff.mp hu2).1; simpa using this) (by have := (List.getElem?_eq_some_iff.mp hu3).1; simpa using this) fun w1 w2 w3 h' tk q1 q2 q3 z' TO' h1' h2' h3' hT hsz hk => ?_
    have ew1 : w1 = u := by simpa [hu] using q1.symm
    have ew2 : w2 = u2 := by simpa [hu2] using q2.symm
    have ew3 : w3 = u3 := by simpa [hu3] using q3.symm
    subst ew1 ew2 ew3
    refine ⟨_, rfl, wpAny_letOwnedTupleGo_zip (s := { s with heap := h', toks := tk }) z' fun h'' z'' sb => ?_⟩
    have hT2 : h''.get? s.heap.objs.size = some { cls := .type "tuple", data := .seq #[w1, w2, w3] } := (sb.2 _ (Nat.ne_of_gt hzl)).trans hT
    have new : ObjOk X.prog X.w (upd H s.heap.objs.size (.frz { cls := .type "tuple", data := .seq #[w1, w2, w3] } (.tup [x, y, v]))) h'' s.heap.objs.size (.frz { cls := .type "tuple", data := .seq #[w1, w2, w3] } (.tup [x, y, v])) :=
      ⟨hT2, by show 3 ≤ sizeLine; decide, [w1, w2, w3], .cons ru (.cons ru2 (.cons ru3 .nil)), ⟨_, hT2, rfl, _, rfl⟩⟩
    have I1 : Inv X pins σ (upd H s.heap.objs.size (.frz { cls := .type "tuple", data := .seq #[w1, w2, w3] } (.tup [x, y, v]))) { s with heap := h'', toks := tk } :=
      I.turnedNew (t' := tk) (ch := [z, TI, TO, i1, i2, i3]) (fun c o hb q => (sb.2 c (fun q' => hb (by simp [q']))).trans (hk c o (fun q' => hb (by simp [q'])) (fun q' => hb (by simp [q'])) (fun q' => hb (by simp [q'])) (fun q' => hb (by simp [q'])) (fun q' => hb (by simp [q'])) q)) hf (Nat.le_refl _) new
    refine ⟨.ref s.heap.objs.size, _, I1, rfl, ⟨_, x, y, v, _, rfl, I.hok.fresh (Nat.le_refl _), rfl, rfl, fun l hl => by rw [hl.inj hqx]; exact hx, fun l hl => by rw [hl.inj hqy]; exact hy, fun l hl => by rw [hl.inj hqu]; exact hv⟩, ⟨z'', ?_, ⟨w1, w2, w3, ?_⟩, ?_, ?_, ?_⟩, fun c hcm => ?_⟩
    · exact (sb.2 _ d1.symm).trans (hk _ _ d1.symm d6 d7 d8 d9 hTI)
    · exact (sb.2 _ d2.symm).trans TO'
    · exact h1'.1.at' fun o q => (sb.2 _ d3.symm).trans q
    · exact h2'.1.at' fun o q => (sb.2 _ d4.symm).trans q
    · exact h3'.1.at' fun o q => (sb.2 _ d5.symm).trans q
    · have hlt : c < s.heap.objs.size := by
        have e' : c = z ∨ c = TI ∨ c = TO ∨ c = i1 ∨ c = i2 ∨ c = i3 := by simpa using hcm
        rcases e' with q | q | q | q | q | q
        · rw [q]; exact hzl
        · rw [q]; exact Heap.lt_size hTI
        · rw [q]; exact Heap.lt_size hTO
        · rw [q]; exact h1.lt
        · rw [q]; exact h2.lt
        · rw [q]; exact h3.lt
      rw [upd_ne (Nat.ne_of_lt hlt)]
      exact (hf c hcm).1
  done := by
    intro X hP hw hK hc i pins s σ H E I hf st hg
    subst hP hw hK
    obtain ⟨hz, hTI, ⟨x0, y0, u0, hTO⟩, h1, h2, h3⟩ := st
    obtain ⟨xs, ys, us, hqx, hqy, hqu, hl1, hl2, hl3, hend⟩ := hg
    obtain ⟨its, rv, p, _, _⟩ := Sq.get I hqx
    obtain ⟨its2, rv2, p2, _, _⟩ := Sq.get I hqy
    obtain ⟨its3, rv3, p3, _, _⟩ := Sq.get I hqu
    have l1 := rv.length
    have l2 := rv2.length
    have l3 := rv3.length
    have hh : X.A.in1.handled = none := I.ok.hd hc
    obtain ⟨⟨d1, d2, d3, d4, d5, d6, d7, d8, d9, e1, e2, e3, e4, e5, e6⟩, dk⟩ := id D
    exact wpAny_pyNext_zipD3_end D.sep (drA hh b1 i1 a1 (dk i1 (by simp)).1.symm its.toArray) (drA hh b2 i2 a2 (dk i2 (by simp)).2.1.symm its2.toArray) (drA hh b3 i3 a3 (dk i3 (by simp)).2.2.symm its3.toArray) hz hTI hTO ⟨h1, p⟩ ⟨h2, p2⟩ ⟨h3, p3⟩
      (by simp; omega) (by simp; omega) (by simp; omega) (by simp; omega) fun h' tk hk => ⟨rfl, I.turnedL (t' := tk) (ch := [z, TI, TO, i1, i2, i3]) (fun c o hb q =>
      hk c o (fun q' => hb (by simp [q'])) (fun q' => hb (by simp [q'])) (fun q' => hb (by simp [q'])) (fun q' => hb (by simp [q'])) (fun q' => hb (by simp [q'])) q) hf⟩
  self := fun A i s Q E st h => wpAny_pyIter_zip st.1 h
def iZ3 (ta : TA) : TI := fun σ H R => ta σ H fun vs H1 => ∃ b1 b2 b3 a1 a2 a3 xs ys us, vs = [.ref a1, .ref a2, .ref a3] ∧ Sq b1 H1 a1 xs ∧ Sq b2 H1 a2 ys ∧ Sq b3 H1 a3 us ∧ R (Jz3 b1 b2 b3 a1 a2 a3) H1
theorem pi_z3 {X : Cx} {e e2 e3 : Expr} {ta : TA} {p pos tpos : Pos} {elts : List Expr} {kk : Nat} (hg : Gl X "zip") (hm : X.mg "zip" = none) (ha : PA X [e, e2, e3] ta)
    (hs : starEach [e, e2, e3] X.env = (false, eval e X.env) :: starEach [e2, e3] X.env := by rfl) (hpl : (backTo pos (starEach [e2, e3] X.env)).any (·.1) = false := by rfl) :
    PI X (.Tuple elts kk tpos) (.Call (.Name "zip" p) [e, e2, e3] [] pos) (iZ3 ta) := by
  refine ⟨fun pins s σ H R I h => ?_⟩
  refine Call_ (ld_blt I hg hm PyProof.Rows.boot_zip (PyProof.Rows.callWith_type1 (thn (ha.run pos pins s σ H _ I h) fun us s1 ⟨vs, H1, I1, r1, q1⟩ => ?_) hs hpl))
  obtain ⟨b1, b2, b3, a1, a2, a3, xs, ys, zs, ex, hqx, hqy, hqz, q⟩ := q1
  subst ex
  cases r1 with
  | cons r rr =>
    cases rr with
    | cons r' rr =>
      cases rr with
      | cons r'' rr =>
        cases rr
        cases r
        cases r'
        cases r''
        obtain ⟨its, rv, p1, _, l1⟩ := Sq.get I1 hqx
        obtain ⟨its2, rv2, p2, _, l2⟩ := Sq.get I1 hqy
        obtain ⟨its3, rv3, p3, _, l3⟩ := Sq.get I1 hqz
        refine zip_begins3 (begA b1 a1 its.toArray) (begA b2 a2 its2.toArray) (begA b3 a3 its3.toArray) p1 p2 p3 fun h' hz hTI hTO h1 h2 h3 hsz hk => wpAny_pyIter_zip hz ?_
        have I2 : Inv X pins σ H1 { s1 with heap := h' } := I1.kept (t' := s1.toks) hk
        refine ⟨s1.heap.objs.size + 5, [s1.heap.objs.size + 5, s1.heap.objs.size + 3, s1.heap.objs.size + 4, s1.heap.objs.size, s1.heap.objs.size + 1, s1.heap.objs.size + 2], _, _, H1, rfl, I2, turn_z3 (b1 := b1) (b2 := b2) (b3 := b3) (a1 := a1) (a2 := a2) (a3 := a3) (sep3_of l1 l2 l3), ⟨hz, hTI, ⟨_, _, _, hTO⟩, itA_new b1 h1, itA_new b2 h2, itA_new b3 h3⟩, fun c hcm => ?_, q⟩
        have e' : c = s1.heap.objs.size + 5 ∨ c = s1.heap.objs.size + 3 ∨ c = s1.heap.objs.size + 4 ∨ c = s1.heap.objs.size ∨ c = s1.heap.objs.size + 1 ∨ c = s1.heap.objs.size + 2 := by simpa using hcm
        have hle : s1.heap.objs.size ≤ c := by rcases e' with z | z | z | z | z | z <;> (rw [z]; first | exact Nat.le_refl _ | exact Nat.le_add_right _ _)
        exact I1.fpOk hle (I1.hok.fresh hle)
def zip3D (ds es fs : List PyData) : List PyData := (ds.zip (es.zip fs)).map fun p => .tuple [p.1, p.2.1, p.2.2]
theorem zip3D_len {ds es fs : List PyData} : (zip3D ds es fs).length = min ds.length (min es.length fs.length) := by simp [zip3D]
theorem zip3D_at {ds es fs : List PyData} {i : Nat} {x y u : PyData} (h : ds[i]? = some x) (h2 : es[i]? = some y) (h3 : fs[i]? = some u) : (zip3D ds es fs)[i]? = some (.tuple [x, y, u]) := by
  have q2 : (es.zip fs)[i]? = some (y, u) := List.getElem?_zip_eq_some.mpr ⟨h2, h3⟩
  have q : (ds.zip (es.zip fs))[i]? = some (x, y, u) := List.getElem?_zip_eq_some.mpr ⟨h, q2⟩
  simp [zip3D, q]
def YP3 (xs ys us : Nat → Option V) : Nat → Hp → V → Hp → Prop := fun i H v H' => ∃ T x y u o, v = .ref T ∧ H T = none ∧ o.dict = none ∧ H' = upd H T (.frz o (.tup [x, y, u])) ∧ xs i = some x ∧ ys i = some y ∧ us i = some u
theorem walk_z3 {b1 b2 b3 : Bool} {a1 a2 a3 : Addr} {xs ys us : List V} : Walk (Jz3 b1 b2 b3 a1 a2 a3) (min xs.length (min ys.length us.length)) (fun H => Sq b1 H a1 xs ∧ Sq b2 H a2 ys ∧ Sq b3 H a3 us) (YP3 (fun i => xs[i]?) (fun i => ys[i]?) (fun i => us[i]?)) := by
  refine ⟨fun i _ hi q => ?_, fun _ q => ⟨xs, ys, us, q.1, q.2.1, q.2.2, by omega, by omega, by omega, by omega⟩, fun i H v H' _ q y => ?_⟩
  · have h1 : i < xs.length := by omega
    have h2 : i < ys.length := by omega
    have h3 : i < us.length := by omega
    exact ⟨xs, ys, us, xs[i], ys[i], us[i], q.1, q.2.1, q.2.2, by simp [h1], by simp [h2], by simp [h3]⟩
  · obtain ⟨T, x, z, u, o, h1, h2, h0, h3, h4, h5, h6⟩ := y
    exact ⟨T, x, z, u, o, h1, h2, h0, h3, h4 xs q.1, h5 ys q.2.1, h6 us q.2.2⟩
theorem ei_zip3 {X : Cx} {bz : Bool} {Γ : DEnv} {e e2 e3 : Expr} {d1 d2 d3 : PyData} {ds ds2 ds3 : List PyData} {p pos : Pos} {elts : List Expr} {kk : Nat} {tpos : Pos} (hm : X.mg "zip" = none) (ha : Ev bz X Γ e d1) (hb : Ev bz X Γ e2 d2) (hc : Ev bz X Γ e3 d3) (h1 : isSeq d1 ds) (h2 : isSeq d2 ds2) (h3 : isSeq d3 ds3) (f1 : fl bz ds) (f2 : fl bz ds2) (f3 : fl bz ds3) (hg : Gl X "zip" := by rfl)
    (hs : starEach [e, e2, e3] X.env = (false, eval e X.env) :: starEach [e2, e3] X.env := by rfl) (hs2 : starEach [e2, e3] X.env = (false, eval e2 X.env) :: starEach [e3] X.env := by rfl) (hs3 : starEach [e3] X.env = (false, eval e3 X.env) :: starEach [] X.env := by rfl) (hpl : (backTo pos (starEach [e2, e3] X.env)).any (·.1) = false := by rfl) :
    Ei bz X (.Tuple elts kk tpos) Γ (.Call (.Name "zip" p) [e, e2, e3] [] pos) (zip3D ds ds2 ds3) :=
  PI_mono (pi_z3 hg hm (pa_cons ha (pa_cons hb (pa_cons hc pa_nil hs3) hs2) hs) hs hpl) fun σ H R' ⟨c, R, k⟩ => ⟨c, R, fun v H1 s1 q1 => ⟨c, R.same s1, fun u H2 s2 q2 => ⟨c, (R.same s1).same s2, fun w H3 s3 q3 => by
    obtain ⟨t1, a1, xs, rfl, z1, e1, st1, g1⟩ := sq_of ((q1.same s2).same s3) h1 f1
    obtain ⟨t2, a2, ys, rfl, z2, e2, st2, g2⟩ := sq_of (q2.same s3) h2 f2
    obtain ⟨t3, a3, us, rfl, z3, e3, st3, g3⟩ := sq_of q3 h3 f3
    have hl : (zip3D ds ds2 ds3).length = min xs.length (min ys.length us.length) := by rw [zip3D_len, g1.length, g2.length, g3.length]
    refine ⟨t1, t2, t3, a1, a2, a3, xs, ys, us, rfl, e1, e2, e3, k _ H3 (s1.trans (s2.trans s3)) ⟨_, _, by rw [hl]; exact Nat.le_trans (Nat.min_le_left _ _) z1, by rw [hl]; exact walk_z3 (xs := xs) (ys := ys) (us := us), fun H4 s4 => And.intro (st1 H4 s4) (And.intro (st2 H4 s4) (st3 H4 s4)), fun i H4 x H' hi s4 y => ?_⟩⟩
    obtain ⟨T, x, z, u, o, rfl, hT, ho, rfl, w1, w2, w3⟩ := y
    obtain ⟨d, hd, hx⟩ := g1.getV w1
    obtain ⟨d', hd', hx'⟩ := g2.getV w2
    obtain ⟨d'', hd'', hx''⟩ := g3.getV w3
    exact ⟨same_new hT _, _, zip3D_at hd hd' hd'', fun B' k1 k2 => .tup (isT_new ho (by show 3 ≤ sizeLine; decide)) (.cons ((s4.db2 hx k1 k2).same (same_new hT _)) (.cons ((s4.db2 hx' k1 k2).same (same_new hT _)) (.cons ((s4.db2 hx'' k1 k2).same (same_new hT _)) .nil)))⟩⟩⟩⟩
end DL

namespace DL
open PySem PySem.Spec PyProof.Rows L2
section
variable {X : Cx} {bz : Bool} {Γ : DEnv} {a b e e1 e2 e3 elt tg iter t : Expr} {es : List Expr} {pos p : Pos} {α β γ δ : Type} {d d1 d2 : PyData} {ds : List PyData}
theorem Av.cast {ds' : List PyData} (h : Av bz X Γ es ds) (q : ds = ds') : Av bz X Γ es ds' := q ▸ h
theorem Tv.cast {x y : Bool} (h : Tv X Γ t x) (q : x = y) : Tv X Γ t y := q ▸ h
theorem Ei.cast {ds' : List PyData} (h : Ei bz X tg Γ e ds) (q : ds = ds') : Ei bz X tg Γ e ds' := q ▸ h
theorem t_if (E : Enc α) {x : Bool} {u v : α} (ht : Tv X Γ t x) (ha : x = true → Ev bz X Γ a (E.f u)) (hb : x = false → Ev bz X Γ b (E.f v)) : Ev bz X Γ (.IfExp t a b pos) (E.f (if x = true then u else v)) := by
  have := ev_if (pos := pos) ht ha hb
  cases x
  · exact this
  · exact this
theorem filter_T {xs : List α} : xs.filter (fun _ => true) = xs := List.filter_eq_self.mpr fun _ _ => rfl
/-- [elt for x in xs] -/
theorem b_map {own : List (Str × Nat)} {scope : Scope} {gt : TG} (ei : Enc α) (eo : Enc β) (xs : List α) (r : α → β) (Γb : α → DEnv) (g : XG X.calm X.A X.N)
    (hi : Ei bz X tg Γ iter (xs.map ei.f)) (ok : BlkOk X.N X.env.scope scope own)
    (hg : ∀ (s : Shared) (H : Hp) (C : Addr) (cl : List (Str × Addr)) (fp : List Addr), PG (X.blk s H scope (compEnvC scope cl C X.env) fp) tg gt)
    (hbd : ∀ x ∈ xs, Bd (own.map (·.2)) gt (wipG Γ (own.map (·.2))) (ei.f x) (Γb x))
    (he : ∀ (s : Shared) (H : Hp) (C : Addr) (cl : List (Str × Addr)) (fp : List Addr), ∀ x ∈ xs, Ev bz (X.blk s H scope (compEnvC scope cl C X.env) fp) (Γb x) elt (eo.f (r x)))
    (hs : ∀ x, foldedSetIterable iter X.env x = pure x := by intro _; rfl) :
    LcB bz X Γ elt tg iter [] scope ((eL eo).f (xs.map r)) := by
  have := b_lc (ifs := []) ei eo xs (fun _ => true) r Γb g hi ok hg hbd (fun _ _ _ _ _ _ _ => tsv_nil) (fun s H C cl fp x hx _ => he s H C cl fp x hx) hs
  rw [filter_T] at this
  exact this
/-- [x for x in xs if c] -/
theorem b_fil {own : List (Str × Nat)} {scope : Scope} {ifs : List Expr} {gt : TG} (ei : Enc α) (xs : List α) (q : α → Bool) (Γb : α → DEnv) (g : XG X.calm X.A X.N)
    (hi : Ei bz X tg Γ iter (xs.map ei.f)) (ok : BlkOk X.N X.env.scope scope own)
    (hg : ∀ (s : Shared) (H : Hp) (C : Addr) (cl : List (Str × Addr)) (fp : List Addr), PG (X.blk s H scope (compEnvC scope cl C X.env) fp) tg gt)
    (hbd : ∀ x ∈ xs, Bd (own.map (·.2)) gt (wipG Γ (own.map (·.2))) (ei.f x) (Γb x))
    (ht : ∀ (s : Shared) (H : Hp) (C : Addr) (cl : List (Str × Addr)) (fp : List Addr), ∀ x ∈ xs, Tsv (X.blk s H scope (compEnvC scope cl C X.env) fp) (Γb x) ifs (q x))
    (he : ∀ (s : Shared) (H : Hp) (C : Addr) (cl : List (Str × Addr)) (fp : List Addr), ∀ x ∈ xs, q x = true → Ev bz (X.blk s H scope (compEnvC scope cl C X.env) fp) (Γb x) elt (ei.f x))
    (hs : ∀ x, foldedSetIterable iter X.env x = pure x := by intro _; rfl) :
    LcB bz X Γ elt tg iter ifs scope ((eL ei).f (xs.filter q)) := by
  have := b_lc ei ei xs q id Γb g hi ok hg hbd ht he hs
  rw [List.map_id] at this
  exact this
/-! what is walked -/
theorem ti_seq (E : Enc α) (xs : List α) (h : Ev bz X Γ e d) (hs : isSeq d (xs.map E.f)) (f : fl bz (xs.map E.f)) : Ei bz X tg Γ e (xs.map E.f) := ei_seq h hs f
theorem ti_zip (E : Enc α) (F : Enc β) (xs : List α) (ys : List β) {elts : List Expr} {kk : Nat} {tpos : Pos} (hm : X.mg "zip" = none) (ha : Ev bz X Γ e1 d1) (hb : Ev bz X Γ e2 d2) (h1 : isSeq d1 (xs.map E.f)) (h2 : isSeq d2 (ys.map F.f)) (f1 : fl bz (xs.map E.f)) (f2 : fl bz (ys.map F.f)) (hg : Gl X "zip" := by rfl)
    (hs : starEach [e1, e2] X.env = (false, eval e1 X.env) :: starEach [e2] X.env := by rfl) (hs2 : starEach [e2] X.env = (false, eval e2 X.env) :: starEach [] X.env := by rfl) (hpl : (backTo pos (starEach [e2] X.env)).any (·.1) = false := by rfl) :
    Ei bz X (.Tuple elts kk tpos) Γ (.Call (.Name "zip" p) [e1, e2] [] pos) ((xs.zip ys).map (eP E F).f) :=
  Ei.cast (ei_zip hm ha hb h1 h2 f1 f2 hg hs hs2 hpl) (by simp [zipD, List.zip_map, Function.comp_def]; intros; rfl)
theorem ti_zip3 (E : Enc α) (F : Enc β) (G : Enc γ) (xs : List α) (ys : List β) (zs : List γ) {d3 : PyData} {elts : List Expr} {kk : Nat} {tpos : Pos} (hm : X.mg "zip" = none) (ha : Ev bz X Γ e1 d1) (hb : Ev bz X Γ e2 d2) (hc : Ev bz X Γ e3 d3) (h1 : isSeq d1 (xs.map E.f)) (h2 : isSeq d2 (ys.map F.f)) (h3 : isSeq d3 (zs.map G.f)) (f1 : fl bz (xs.map E.f)) (f2 : fl bz (ys.map F.f)) (f3 : fl bz (zs.map G.f)) (hg : Gl X "zip" := by rfl)
    (hs : starEach [e1, e2, e3] X.env = (false, eval e1 X.env) :: starEach [e2, e3] X.env := by rfl) (hs2 : starEach [e2, e3] X.env = (false, eval e2 X.env) :: starEach [e3] X.env := by rfl) (hs3 : starEach [e3] X.env = (false, eval e3 X.env) :: starEach [] X.env := by rfl) (hpl : (backTo pos (starEach [e2, e3] X.env)).any (·.1) = false := by rfl) :
    Ei bz X (.Tuple elts kk tpos) Γ (.Call (.Name "zip" p) [e1, e2, e3] [] pos) ((xs.zip (ys.zip zs)).map (eP3 E F G).f) :=
  Ei.cast (ei_zip3 hm ha hb hc h1 h2 h3 f1 f2 f3 hg hs hs2 hs3 hpl) (by simp [zip3D, List.zip_map, Function.comp_def]; intros; rfl)
def enumT (xs : List α) : List (Int × α) := xs.zipIdx.map fun p => ((p.2 : Int), p.1)
theorem ti_enum (E : Enc α) (xs : List α) {elts : List Expr} {kk : Nat} {tpos : Pos} (hm : X.mg "enumerate" = none) (ha : Ev bz X Γ e d1) (h1 : isSeq d1 (xs.map E.f)) (f1 : fl bz (xs.map E.f)) (hg : Gl X "enumerate" := by rfl)
    (hs : starEach [e] X.env = (false, eval e X.env) :: starEach [] X.env := by rfl) : Ei bz X (.Tuple elts kk tpos) Γ (.Call (.Name "enumerate" p) [e] [] pos) ((enumT xs).map (eP eI E).f) :=
  Ei.cast (ei_enum hm ha h1 f1 hg hs) (by simp [enumD, enumT, List.zipIdx_map, Function.comp_def]; intros; rfl)
def rangeT (lo : Int) (n : Nat) : List Int := (List.range n).map fun (i : Nat) => lo + (i : Int)
theorem ti_range {n : Int} (hm : X.mg "range" = none) (ha : Ev bz X Γ e (.int n)) (hn : n ≤ 1000000) (h0 : 0 ≤ n) (hg : Gl X "range" := by rfl) (hs : starEach [e] X.env = (false, eval e X.env) :: starEach [] X.env := by rfl) : Ei bz X tg Γ (.Call (.Name "range" p) [e] [] pos) ((rangeT 0 n.toNat).map eI.f) :=
  Ei.cast (ei_range1 hm ha (by omega) hg hs) (by simp [rangeD, rangeT]; intros; rfl)
/-! items -/
def ixT (d : α) (xs : List α) (i : Int) : α := xs.getD (if i < 0 then (i + xs.length).toNat else i.toNat) d
theorem t_ix (E : Enc α) (dv : α) (xs : List α) {i : Int} (ha : Ev bz X Γ a d1) (hb : Ev bz X Γ b (.int i)) (hs : isSeq d1 (xs.map E.f)) (hi : -(xs.length : Int) ≤ i ∧ i < xs.length) (hp : PlainIx b := by exact fun _ _ => rfl) : Ev bz X Γ (.Subscript a b pos) (E.f (ixT dv xs i)) := by
  refine ev_ix ha hb hs ?_ hp
  unfold atI ixN ixT
  rw [List.length_map]
  by_cases h0 : i < 0
  · rw [if_pos h0]
    have h1 : (i + xs.length).toNat < xs.length := by omega
    rw [List.getD_eq_getElem?_getD, List.getElem?_eq_getElem h1]
    rw [if_neg (by omega), if_pos (by omega)]
    show (xs.map E.f)[(i + (xs.length : Int)).toNat]? = some _
    rw [List.getElem?_map, List.getElem?_eq_getElem h1]
    rfl
  · rw [if_neg h0]
    have h1 : i.toNat < xs.length := by omega
    rw [List.getD_eq_getElem?_getD, List.getElem?_eq_getElem h1]
    rw [if_pos (by omega), if_pos (by omega)]
    show (xs.map E.f)[i.toNat]? = some _
    rw [List.getElem?_map, List.getElem?_eq_getElem h1]
    rfl
/-! len, max, min, all, any, sorted, sum -/
theorem seq_len {d : PyData} {ds : List PyData} (h : isSeq d ds) : isLen d ds.length := by rcases h with rfl | rfl <;> rfl
theorem t_len (E : Enc α) (xs : List α) (hm : X.mg "len" = none) (ha : Ev bz X Γ e d) (hs : isSeq d (xs.map E.f)) (hg : Gl X "len" := by rfl) (he : starEach [e] X.env = (false, eval e X.env) :: starEach [] X.env := by rfl) (hpl : (backTo pos (starEach [] X.env)).any (·.1) = false := by rfl) : Ev bz X Γ (.Call (.Name "len" p) [e] [] pos) (eI.f (xs.length : Int)) :=
  Ev.cast (ev_call cr_len hm (av_cons ha av_nil he) ⟨d, _, rfl, seq_len hs, rfl⟩ hg (by decide +kernel) (by decide) (by decide) he hpl) (by rw [List.length_map]; rfl)
theorem t_all (g : XG X.calm X.A X.N) (xs : List Bool) (hm : X.mg "all" = none) (ha : Ev bz X Γ e d) (hs : isSeq d (xs.map eB.f)) (hg : Gl X "all" := by rfl) (he : starEach [e] X.env = (false, eval e X.env) :: starEach [] X.env := by rfl) (hpl : (backTo pos (starEach [] X.env)).any (·.1) = false := by rfl) : Ev bz X Γ (.Call (.Name "all" p) [e] [] pos) (eB.f (xs.all id)) :=
  ev_call (cr_all g) hm (av_cons ha av_nil he) ⟨d, xs, rfl, hs, rfl⟩ hg (by decide +kernel) (by decide) (by decide) he hpl
theorem t_any (g : XG X.calm X.A X.N) (xs : List Bool) (hm : X.mg "any" = none) (ha : Ev bz X Γ e d) (hs : isSeq d (xs.map eB.f)) (hg : Gl X "any" := by rfl) (he : starEach [e] X.env = (false, eval e X.env) :: starEach [] X.env := by rfl) (hpl : (backTo pos (starEach [] X.env)).any (·.1) = false := by rfl) : Ev bz X Γ (.Call (.Name "any" p) [e] [] pos) (eB.f (xs.any id)) :=
  ev_call (cr_any g) hm (av_cons ha av_nil he) ⟨d, xs, rfl, hs, rfl⟩ hg (by decide +kernel) (by decide) (by decide) he hpl
theorem t_sum (g : XG X.calm X.A X.N) (xs : List Int) (hm : X.mg "sum" = none) (ha : Ev bz X Γ e d) (hs : isSeq d (xs.map eI.f)) (hg : Gl X "sum" := by rfl) (he : starEach [e] X.env = (false, eval e X.env) :: starEach [] X.env := by rfl) (hpl : (backTo pos (starEach [] X.env)).any (·.1) = false := by rfl) : Ev bz X Γ (.Call (.Name "sum" p) [e] [] pos) (eI.f xs.sum) :=
  ev_call (cr_sumS g) hm (av_cons ha av_nil he) ⟨d, xs, rfl, hs, rfl⟩ hg (by decide +kernel) (by decide) (by decide) he hpl
def maxL (lt : α → α → Bool) (d : α) : List α → α
  | [] => d
  | x :: xs => maxT lt x xs
def minL (lt : α → α → Bool) (d : α) : List α → α
  | [] => d
  | x :: xs => minT lt x xs
theorem t_max {E : Enc α} {lt : α → α → Bool} (O : OrdE E lt) (dv : α) (g : XG X.calm X.A X.N) (xs : List α) (hm : X.mg "max" = none) (ha : Ev bz X Γ e d) (hs : isSeq d (xs.map E.f)) (hne : xs ≠ []) (hn : E.n ≤ 40 := by exact Nat.le_of_ble_eq_true rfl) (hg : Gl X "max" := by rfl) (he : starEach [e] X.env = (false, eval e X.env) :: starEach [] X.env := by rfl) (hpl : (backTo pos (starEach [] X.env)).any (·.1) = false := by rfl) : Ev bz X Γ (.Call (.Name "max" p) [e] [] pos) (E.f (maxL lt dv xs)) := by
  cases xs with
  | nil => exact absurd rfl hne
  | cons x xs => exact Ev.cast (ev_call (cr_max g) hm (av_cons ha av_nil he) ⟨d, _, _, rfl, hs, O.ordC (x :: xs) hn, rfl⟩ hg (by decide +kernel) (by decide) (by decide) he hpl) (O.maxD x xs)
theorem t_min {E : Enc α} {lt : α → α → Bool} (O : OrdE E lt) (dv : α) (g : XG X.calm X.A X.N) (xs : List α) (hm : X.mg "min" = none) (ha : Ev bz X Γ e d) (hs : isSeq d (xs.map E.f)) (hne : xs ≠ []) (hn : E.n ≤ 40 := by exact Nat.le_of_ble_eq_true rfl) (hg : Gl X "min" := by rfl) (he : starEach [e] X.env = (false, eval e X.env) :: starEach [] X.env := by rfl) (hpl : (backTo pos (starEach [] X.env)).any (·.1) = false := by rfl) : Ev bz X Γ (.Call (.Name "min" p) [e] [] pos) (E.f (minL lt dv xs)) := by
  cases xs with
  | nil => exact absurd rfl hne
  | cons x xs => exact Ev.cast (ev_call (cr_min g) hm (av_cons ha av_nil he) ⟨d, _, _, rfl, hs, O.ordC (x :: xs) hn, rfl⟩ hg (by decide +kernel) (by decide) (by decide) he hpl) (O.minD x xs)
theorem t_max2 (g : XG X.calm X.A X.N) {i j : Int} (hm : X.mg "max" = none) (ha : Ev bz X Γ a (.int i)) (hb : Ev bz X Γ b (.int j)) (hg : Gl X "max" := by rfl) (he : starEach [a, b] X.env = (false, eval a X.env) :: starEach [b] X.env := by rfl) (he2 : starEach [b] X.env = (false, eval b X.env) :: starEach [] X.env := by rfl) (hpl : (backTo pos (starEach [b] X.env)).any (·.1) = false := by rfl) : Ev bz X Γ (.Call (.Name "max" p) [a, b] [] pos) (eI.f (max i j)) :=
  Ev.cast (ev_call (cr_max2 g) hm (av_cons ha (av_cons hb av_nil he2) he) ⟨i, j, rfl, rfl⟩ hg (by decide +kernel) (by decide) (by decide) he hpl) (by show PyData.int _ = PyData.int _; congr 1; split <;> omega)
theorem t_sorted {E : Enc α} {lt : α → α → Bool} (O : OrdE E lt) (g : XG X.calm X.A X.N) (xs : List α) (hm : X.mg "sorted" = none) (ha : Ev bz X Γ e ((eL E).f xs)) (ht : (∀ a, ∃ ys, E.f a = .tuple ys) ∨ ∀ a ys, E.f a ≠ .tuple ys) (hn : E.n ≤ 40 := by exact Nat.le_of_ble_eq_true rfl) (hg : Gl X "sorted" := by rfl) (he : starEach [e] X.env = (false, eval e X.env) :: starEach [] X.env := by rfl) (hpl : (backTo pos (starEach [] X.env)).any (·.1) = false := by rfl) : Ev bz X Γ (.Call (.Name "sorted" p) [e] [] pos) ((eL E).f (srt lt xs)) :=
  Ev.cast (ev_call (cr_sorted g) hm (av_cons ha av_nil he) ⟨xs.map E.f, rfl, O.srtC xs hn ht, rfl⟩ hg (by decide +kernel) (by decide) (by decide) he hpl) (by rw [O.srtD]; rfl)
theorem t_tuple (E : Enc α) (xs : List α) (hm : X.mg "tuple" = none) (ha : Ev bz X Γ e d) (hs : isSeq d (xs.map E.f)) (hg : Gl X "tuple" := by rfl) (he : starEach [e] X.env = (false, eval e X.env) :: starEach [] X.env := by rfl) (hpl : (backTo pos (starEach [] X.env)).any (·.1) = false := by rfl) : Ev bz X Γ (.Call (.Name "tuple" p) [e] [] pos) ((eT E).f xs) :=
  ev_callT cr_tuple hm (av_cons ha av_nil he) ⟨_, _, rfl, hs, rfl⟩ hg (by decide +kernel) (by decide) (by decide) he hpl
theorem t_list (E : Enc α) (xs : List α) (hm : X.mg "list" = none) (ha : Ev bz X Γ e d) (hs : isSeq d (xs.map E.f)) (hg : Gl X "list" := by rfl) (he : starEach [e] X.env = (false, eval e X.env) :: starEach [] X.env := by rfl) (hpl : (backTo pos (starEach [] X.env)).any (·.1) = false := by rfl) : Ev bz X Γ (.Call (.Name "list" p) [e] [] pos) ((eL E).f xs) :=
  ev_callT cr_list hm (av_cons ha av_nil he) ⟨_, _, rfl, hs, rfl⟩ hg (by decide +kernel) (by decide) (by decide) he hpl
theorem t_intB {x : Bool} (hm : X.mg "int" = none) (ha : Ev bz X Γ e (eB.f x)) (hg : Gl X "int" := by rfl) (he : starEach [e] X.env = (false, eval e X.env) :: starEach [] X.env := by rfl) (hpl : (backTo pos (starEach [] X.env)).any (·.1) = false := by rfl) : Ev bz X Γ (.Call (.Name "int" p) [e] [] pos) (eI.f (if x = true then 1 else 0)) :=
  ev_callT cr_int hm (av_cons ha av_nil he) (.inr ⟨x, rfl, rfl⟩) hg (by decide +kernel) (by decide) (by decide) he hpl
theorem t_intI {x : Int} (hm : X.mg "int" = none) (ha : Ev bz X Γ e (eI.f x)) (hg : Gl X "int" := by rfl) (he : starEach [e] X.env = (false, eval e X.env) :: starEach [] X.env := by rfl) (hpl : (backTo pos (starEach [] X.env)).any (·.1) = false := by rfl) : Ev bz X Γ (.Call (.Name "int" p) [e] [] pos) (eI.f x) :=
  ev_callT cr_int hm (av_cons ha av_nil he) (.inl ⟨x, rfl, rfl⟩) hg (by decide +kernel) (by decide) (by decide) he hpl
/-! methods -/
theorem cnt_eq [BEq α] [LawfulBEq α] (E : Enc α) (x : α) : ∀ xs : List α, cntD (xs.map E.f) (E.f x) = xs.count x
  | [] => rfl
  | y :: ys => by
    letI : DecidableEq α := fun _ _ => Classical.propDecidable _
    have ih := cnt_eq E x ys
    unfold cntD at ih ⊢
    rw [List.map_cons, List.countP_cons, ih, List.count_cons, beq_true_iff (E.eqv y x)]
    by_cases h : y = x <;> simp [h]
theorem place_eq [BEq α] [LawfulBEq α] (E : Enc α) (x : α) : ∀ xs : List α, x ∈ xs → PySem.SeqAt.dataPlace (xs.map E.f) (E.f x) = some (xs.idxOf x)
  | [], h => nomatch h
  | y :: ys, h => by
    letI : DecidableEq α := fun _ _ => Classical.propDecidable _
    unfold PySem.SeqAt.dataPlace
    rw [List.map_cons, List.findIdx?_cons, beq_true_iff (E.eqv y x)]
    by_cases e : y = x
    · simp [e]
    · have ih := place_eq E x ys ((List.mem_cons.mp h).resolve_left (Ne.symm e))
      unfold PySem.SeqAt.dataPlace at ih
      rw [ih]
      have : (y == x) = false := by simpa using e
      simp [e, List.idxOf_cons, this]
section
variable {o : Expr} {apos cpos : Pos}
theorem t_countT [BEq α] [LawfulBEq α] (E : Enc α) (xs : List α) {x : α} (g : XG X.calm X.A X.N) (ho : Ev bz X Γ o ((eT E).f xs)) (ha : Ev bz X Γ e (E.f x)) (hn : E.n ≤ 40 := by exact Nat.le_of_ble_eq_true rfl)
    (hbase : attributeBase o "count" X.env (eval o X.env) = eval o X.env := by rfl)
    (hfew : ((backTo cpos (starEach [e] X.env)).all (fun x => !x.1) && (backToKw cpos (keywordEach [] X.env)).all (fun x => x.1.isSome)
      && decide ([e].length + ([] : List Keyword).length + (if ([] : List Keyword).isEmpty then 0 else 1) < 30)) = true := by rfl)
    (hline : (apos.endLine == cpos.line) = true := by rfl) (hs : starEach [e] X.env = (false, eval e X.env) :: starEach [] X.env := by rfl) (hplain : (backTo cpos (starEach [] X.env)).any (·.1) = false := by rfl) :
    Ev bz X Γ (.Call (.Attribute o "count" apos) [e] [] cpos) (eI.f (xs.count x : Int)) :=
  Ev.cast (ev_meth PySem.F.plainAttrs_tuple PySem.F.slot_tuple_count PySem.F.type_tuple_count (mt_count g) ho (av_cons ha av_nil hs) ⟨⟨_, rfl⟩, _, _, .inr rfl, rfl, E.smallAll xs hn, E.small x hn, rfl⟩ (.inr ⟨rfl, _, rfl⟩) hbase hfew hline hs hplain) (by rw [cnt_eq]; rfl)
theorem t_countL [BEq α] [LawfulBEq α] (E : Enc α) (xs : List α) {x : α} (g : XG X.calm X.A X.N) (ho : Ev bz X Γ o ((eL E).f xs)) (ha : Ev bz X Γ e (E.f x)) (hn : E.n ≤ 40 := by exact Nat.le_of_ble_eq_true rfl)
    (hbase : attributeBase o "count" X.env (eval o X.env) = eval o X.env := by rfl)
    (hfew : ((backTo cpos (starEach [e] X.env)).all (fun x => !x.1) && (backToKw cpos (keywordEach [] X.env)).all (fun x => x.1.isSome)
      && decide ([e].length + ([] : List Keyword).length + (if ([] : List Keyword).isEmpty then 0 else 1) < 30)) = true := by rfl)
    (hline : (apos.endLine == cpos.line) = true := by rfl) (hs : starEach [e] X.env = (false, eval e X.env) :: starEach [] X.env := by rfl) (hplain : (backTo cpos (starEach [] X.env)).any (·.1) = false := by rfl) :
    Ev bz X Γ (.Call (.Attribute o "count" apos) [e] [] cpos) (eI.f (xs.count x : Int)) :=
  Ev.cast (ev_meth PySem.F.plainAttrs_list PySem.F.slot_list_count PySem.F.type_list_count (ml_count g) ho (av_cons ha av_nil hs) ⟨⟨_, rfl⟩, _, _, .inl rfl, rfl, E.smallAll xs hn, E.small x hn, rfl⟩ (.inl ⟨rfl, _, rfl⟩) hbase hfew hline hs hplain) (by rw [cnt_eq]; rfl)
theorem t_indexT [BEq α] [LawfulBEq α] (E : Enc α) (xs : List α) {x : α} (g : XG X.calm X.A X.N) (ho : Ev bz X Γ o ((eT E).f xs)) (ha : Ev bz X Γ e (E.f x)) (hx : x ∈ xs) (hn : E.n ≤ 40 := by exact Nat.le_of_ble_eq_true rfl)
    (hbase : attributeBase o "index" X.env (eval o X.env) = eval o X.env := by rfl)
    (hfew : ((backTo cpos (starEach [e] X.env)).all (fun x => !x.1) && (backToKw cpos (keywordEach [] X.env)).all (fun x => x.1.isSome)
      && decide ([e].length + ([] : List Keyword).length + (if ([] : List Keyword).isEmpty then 0 else 1) < 30)) = true := by rfl)
    (hline : (apos.endLine == cpos.line) = true := by rfl) (hs : starEach [e] X.env = (false, eval e X.env) :: starEach [] X.env := by rfl) (hplain : (backTo cpos (starEach [] X.env)).any (·.1) = false := by rfl) :
    Ev bz X Γ (.Call (.Attribute o "index" apos) [e] [] cpos) (eI.f (xs.idxOf x : Int)) :=
  ev_meth PySem.F.plainAttrs_tuple PySem.F.slot_tuple_index PySem.F.type_tuple_index (mt_index g) ho (av_cons ha av_nil hs) ⟨⟨_, rfl⟩, _, _, _, .inr rfl, rfl, E.smallAll xs hn, E.small x hn, place_eq E x xs hx, rfl⟩ (.inr ⟨rfl, _, rfl⟩) hbase hfew hline hs hplain
end
/-! slices -/
def cutT (xs : List α) (lo hi : Option Int) : List α := (xs.drop (HT.sIx xs.length 0 lo)).take (HT.sIx xs.length xs.length hi - HT.sIx xs.length 0 lo)
theorem cut_map (E : Enc α) (xs : List α) (lo hi : Option Int) : cut (xs.map E.f) lo hi = (cutT xs lo hi).map E.f := by
  simp [cut, cutT, List.map_drop, List.map_take]
theorem t_sliceT (E : Enc α) (xs : List α) {lo hi : Option Expr} {l u : Option Int} {p2} (ha : Ev bz X Γ e ((eT E).f xs)) (hl : Pv bz X Γ lo l) (hu : Pv bz X Γ hi u) : Ev bz X Γ (.Subscript e (.Slice lo hi none p2) pos) ((eT E).f (cutT xs l u)) :=
  Ev.cast (ev_slice ha hl hu (sqT _)) (by rw [cut_map]; rfl)
theorem t_sliceL (E : Enc α) (xs : List α) {lo hi : Option Expr} {l u : Option Int} {p2} (ha : Ev bz X Γ e ((eL E).f xs)) (hl : Pv bz X Γ lo l) (hu : Pv bz X Γ hi u) : Ev bz X Γ (.Subscript e (.Slice lo hi none p2) pos) ((eL E).f (cutT xs l u)) :=
  Ev.cast (ev_slice ha hl hu (sqL _)) (by rw [cut_map]; rfl)
theorem t_catT (E : Enc α) (xs ys : List α) (ha : Ev bz X Γ a ((eT E).f xs)) (hb : Ev bz X Γ b ((eT E).f ys)) (hl : xs.length + ys.length ≤ 1000000) : Ev bz X Γ (.BinOp a .Add b pos) ((eT E).f (xs ++ ys)) :=
  Ev.cast (ev_catT ha hb (by simpa using hl)) (by show PyData.tuple _ = PyData.tuple _; rw [List.map_append])
theorem t_catL (E : Enc α) (xs ys : List α) (ha : Ev bz X Γ a ((eL E).f xs)) (hb : Ev bz X Γ b ((eL E).f ys)) (hl : xs.length + ys.length ≤ 1000000) : Ev bz X Γ (.BinOp a .Add b pos) ((eL E).f (xs ++ ys)) :=
  Ev.cast (ev_catL ha hb (by simpa using hl)) (by show PyData.list _ = PyData.list _; rw [List.map_append])
theorem t_repL (E : Enc α) (xs : List α) {i : Int} (ha : Ev bz X Γ a ((eL E).f xs)) (hb : Ev bz X Γ b (.int i)) (hi : -1000000 ≤ i ∧ i ≤ 1000000) (hl : xs.length * i.toNat ≤ 1000000) : Ev bz X Γ (.BinOp a .Mult b pos) ((eL E).f (List.replicate i.toNat xs).flatten) :=
  Ev.cast (ev_repL ha hb hi (by simpa using hl)) (by show PyData.list _ = PyData.list _; rw [List.map_flatten, List.map_replicate])
/-! argument lists with stars -/
theorem t_star (E : Enc α) (xs ys : List α) {p : Pos} (ha : Ev bz X Γ e d) (hd : isSeq d (xs.map E.f)) (hr : Av bz X Γ es (ys.map E.f)) (hs : starEach (.Starred e p :: es) X.env = (true, eval e X.env) :: starEach es X.env := by rfl) : Av bz X Γ (.Starred e p :: es) ((xs ++ ys).map E.f) :=
  Av.cast (av_star ha hr hd hs) (by rw [List.map_append])
theorem t_avc (E : Enc α) (x : α) (ys : List α) (ha : Ev bz X Γ e (E.f x)) (hr : Av bz X Γ es (ys.map E.f)) (hs : starEach (e :: es) X.env = (false, eval e X.env) :: starEach es X.env := by rfl) : Av bz X Γ (e :: es) ((x :: ys).map E.f) := av_cons ha hr hs
theorem t_tupD (E : Enc α) (xs : List α) {x1} (h : Av bz X Γ es (xs.map E.f)) (hl : xs.length ≤ 1000000) : Ev bz X Γ (.Tuple es x1 pos) ((eT E).f xs) := ev_tup h (by simpa using hl)
theorem t_lstD (E : Enc α) (xs : List α) (h : Av bz X Γ es (xs.map E.f)) (hl : xs.length ≤ 1000000) : Ev bz X Γ (.List es pos) ((eL E).f xs) := ev_lst h (by simpa using hl)
end
end DL

namespace DL
open PySem PySem.Spec PyProof.Rows L2

theorem ne_of_false {b : Bool} (h : b = false) : ¬ b = true := by rw [h]; exact Bool.false_ne_true
/-! ### more encoders -/
section
variable {α β γ : Type}
/-- a pair that is a tuple or a list -/
def eQ (b : Bool) (e : Enc α) (e2 : Enc β) : Enc (α × β) := ⟨fun p => sqd b [e.f p.1, e2.f p.2], max e.n e2.n + 1, fun p => by cases b <;> simp only [sqd, PyData.plain, PyData.plainAll, e.plain, e2.plain, Bool.and_self],
  fun p => by
    have h : max (e.f p.1).depth (max (e2.f p.2).depth 0) ≤ max e.n e2.n := Nat.max_le.mpr ⟨Nat.le_trans (e.depth p.1) (Nat.le_max_left _ _), Nat.max_le.mpr ⟨Nat.le_trans (e2.depth p.2) (Nat.le_max_right _ _), Nat.zero_le _⟩⟩
    cases b <;> (simp only [sqd, PyData.depth, PyData.depthAll]; exact Nat.succ_le_succ h),
  fun a b' => by
    cases b <;> (simp only [sqd, PyData.eqv, PyData.eqvAll, Bool.and_eq_true, Bool.and_true, e.eqv, e2.eqv]; exact Prod.ext_iff.symm)⟩
theorem eqv_none {x : PyData} (h : x ≠ .none) : PyData.eqv x .none = false ∧ PyData.eqv .none x = false := by
  cases x <;> first | exact absurd rfl h | exact ⟨by simp [PyData.eqv], by simp [PyData.eqv]⟩
def eO (e : Enc α) (h : ∀ a, e.f a ≠ .none) : Enc (Option α) := ⟨fun o => match o with | none => .none | some a => e.f a, e.n, fun o => by cases o; rfl; exact e.plain _, fun o => by cases o; exact Nat.zero_le _; exact e.depth _,
  fun a b => by
    cases a with
    | none => cases b with
      | none => simp [PyData.eqv]
      | some b => simp [(eqv_none (h b)).2]
    | some a => cases b with
      | none => simp [(eqv_none (h a)).1]
      | some b => simp [e.eqv]⟩
theorem flatAll_of {e : Enc α} (h : ∀ a, flatD (e.f a) = true) : ∀ xs : List α, flatAll (xs.map e.f) = true
  | [] => rfl
  | x :: xs => by rw [List.map_cons, flatAll, h x, flatAll_of h xs]; rfl
theorem flN : ∀ a, flatD (eN.f a) = true := fun _ => rfl
theorem flI : ∀ a, flatD (eI.f a) = true := fun _ => rfl
theorem flB : ∀ a, flatD (eB.f a) = true := fun _ => rfl
theorem flU : ∀ a, flatD (eU.f a) = true := fun _ => rfl
theorem flT {e : Enc α} (h : ∀ a, flatD (e.f a) = true) : ∀ a, flatD ((eT e).f a) = true := fun a => by
  show flatD (.tuple (a.map e.f)) = true
  rw [flatD]
  exact flatAll_of h a
theorem flP {e : Enc α} {e2 : Enc β} (h : ∀ a, flatD (e.f a) = true) (h2 : ∀ a, flatD (e2.f a) = true) : ∀ a, flatD ((eP e e2).f a) = true := fun a => by
  show flatD (.tuple [e.f a.1, e2.f a.2]) = true
  simp [flatD, flatAll, h, h2]
theorem fl_t {bz : Bool} {e : Enc α} {xs : List α} (h : ∀ a, flatD (e.f a) = true) : fl bz (xs.map e.f) := fun _ => flatAll_of h xs
/-! tupled, soft -/
def TupE (e e2 : Enc α) : Prop := ∀ a, tupD (e.f a) = e2.f a
theorem tpN : TupE eN eN := fun _ => rfl
theorem tpI : TupE eI eI := fun _ => rfl
theorem tpB : TupE eB eB := fun _ => rfl
theorem tpU : TupE eU eU := fun _ => rfl
theorem tupAll_enc {e e2 : Enc α} (h : TupE e e2) (xs : List α) : tupAll (xs.map e.f) = xs.map e2.f := by
  rw [tupAll_map, List.map_map]
  exact List.map_congr_left fun a _ => h a
theorem tpS (b : Bool) {e e2 : Enc α} (h : TupE e e2) : TupE (eS b e) (eT e2) := fun a => by
  show tupD (sqd b (a.map e.f)) = .tuple (a.map e2.f)
  cases b <;> (unfold sqd; rw [tupD, tupAll_enc h])
theorem tpQ (b : Bool) {e e2 : Enc α} {u u2 : Enc β} (h : TupE e e2) (h2 : TupE u u2) : TupE (eQ b e u) (eP e2 u2) := fun a => by
  show tupD (sqd b [e.f a.1, u.f a.2]) = .tuple [e2.f a.1, u2.f a.2]
  cases b <;> (unfold sqd; rw [tupD, tupAll, tupAll, tupAll, h, h2])
theorem tpP {e e2 : Enc α} {u u2 : Enc β} (h : TupE e e2) (h2 : TupE u u2) : TupE (eP e u) (eP e2 u2) := fun a => by
  show tupD (.tuple [e.f a.1, u.f a.2]) = .tuple [e2.f a.1, u2.f a.2]
  rw [tupD, tupAll, tupAll, tupAll, h, h2]
def SofE (e e2 : Enc α) : Prop := ∀ a, softD (e.f a) = e2.f a
theorem sfN : SofE eN eN := fun _ => rfl
theorem sfI : SofE eI eI := fun _ => rfl
theorem sfS (b : Bool) {e e2 : Enc α} (h : SofE e e2) : SofE (eS b e) (eL e2) := fun a => by
  show softD (sqd b (a.map e.f)) = .list (a.map e2.f)
  have : softAll (a.map e.f) = a.map e2.f := by
    rw [softAll_map, List.map_map]
    exact List.map_congr_left fun a _ => h a
  cases b <;> (unfold sqd; rw [softD, this])
theorem sfP {e e2 : Enc α} {u u2 : Enc β} (h : SofE e e2) (h2 : SofE u u2) : SofE (eP e u) (eQ false e2 u2) := fun a => by
  show softD (.tuple [e.f a.1, u.f a.2]) = .list [e2.f a.1, u2.f a.2]
  rw [softD, softAll, softAll, softAll, h, h2]
end
/-- promises of what stands in every law -/
def P_tupled (n : Nat) (ds : List PyData) (d : PyData) : Prop := ∃ x : PyData, ds = [x] ∧ x.plain = true ∧ x.depth ≤ n ∧ d = tupD x
def P_law_soft (n : Nat) (ds : List PyData) (d : PyData) : Prop := ∃ x : PyData, ds = [x] ∧ x.plain = true ∧ x.depth ≤ n ∧ d = softD x
def P_law_same (n : Nat) (ds : List PyData) (d : PyData) : Prop := ∃ x : PyData, ds = [x, x] ∧ x.plain = true ∧ x.depth ≤ n ∧ d = .bool true
def P_law_take (ds : List PyData) (d : PyData) : Prop := ∃ n r : Int, ds = [.int n] ∧ 0 < n ∧ n < 1073741824 ∧ 0 ≤ r ∧ r < n ∧ d = .int r
section
variable {X : Cx} {bz : Bool} {Γ : DEnv} {a b e e1 e2 i o : Expr} {pos p p1 p2 : Pos} {α β : Type} {d d1 d2 : PyData} {ss : List Stmt} {s : Stmt} {N : DEnv → Prop} {R : PyData → DEnv → Prop} {k n : Nat}
theorem t_tupled {E F : Enc α} {v : α} (G : FnF X.prog X.w X.K X.mg X.base "tupled" k ["value"] (P_tupled n)) (hr : Room k X.A) (h : TupE E F) (ha : Ev bz X Γ a (E.f v)) (hn : E.n ≤ n := by exact Nat.le_of_ble_eq_true rfl) (hg : Gl X "tupled" := by rfl)
    (he : starEach [a] X.env = (false, eval a X.env) :: starEach [] X.env := by rfl) (hpl : (backTo pos (starEach [] X.env)).any (·.1) = false := by rfl) : Ev bz X Γ (.Call (.Name "tupled" p) [a] [] pos) (F.f v) :=
  ev_fn G hr (av_cons ha av_nil he) ⟨E.f v, rfl, E.plain v, Nat.le_trans (E.depth v) hn, (h v).symm⟩ hg (by decide) he hpl
theorem t_soft {E F : Enc α} {v : α} (G : FnF X.prog X.w X.K X.mg X.base "_law_soft" k ["matter"] (P_law_soft n)) (hr : Room k X.A) (h : SofE E F) (ha : Ev bz X Γ a (E.f v)) (hn : E.n ≤ n := by exact Nat.le_of_ble_eq_true rfl) (hg : Gl X "_law_soft" := by rfl)
    (he : starEach [a] X.env = (false, eval a X.env) :: starEach [] X.env := by rfl) (hpl : (backTo pos (starEach [] X.env)).any (·.1) = false := by rfl) : Ev bz X Γ (.Call (.Name "_law_soft" p) [a] [] pos) (F.f v) :=
  ev_fn G hr (av_cons ha av_nil he) ⟨E.f v, rfl, E.plain v, Nat.le_trans (E.depth v) hn, (h v).symm⟩ hg (by decide) he hpl
theorem t_same {E : Enc α} {v w : α} (G : FnF X.prog X.w X.K X.mg X.base "_law_same" k ["got", "due"] (P_law_same n)) (hr : Room k X.A) (ha : Ev bz X Γ a (E.f v)) (hb : Ev bz X Γ b (E.f w)) (hvw : v = w) (hn : E.n ≤ n := by exact Nat.le_of_ble_eq_true rfl) (hg : Gl X "_law_same" := by rfl)
    (he : starEach [a, b] X.env = (false, eval a X.env) :: starEach [b] X.env := by rfl) (he2 : starEach [b] X.env = (false, eval b X.env) :: starEach [] X.env := by rfl) (hpl : (backTo pos (starEach [b] X.env)).any (·.1) = false := by rfl) : Ev bz X Γ (.Call (.Name "_law_same" p) [a, b] [] pos) (.bool true) := by
  subst hvw
  exact ev_fn G hr (av_cons ha (av_cons hb av_nil he2) he) ⟨E.f v, rfl, E.plain v, Nat.le_trans (E.depth v) hn, rfl⟩ hg (by decide) he hpl
theorem t_lt {E : Enc α} {lt : α → α → Bool} {x y : α} (O : OrdE E lt) (g : XG X.calm X.A X.N) (ha : Ev bz X Γ a (E.f x)) (hb : Ev bz X Γ b (E.f y)) (hn : E.n ≤ 40 := by exact Nat.le_of_ble_eq_true rfl) : Cv bz X Γ .Lt a b (eB.f (lt x y)) := by
  have := cv_ltD g ha hb ⟨E.small x hn, E.small y hn, O.alike x y, O.nn x⟩
  rw [O.is] at this
  exact this
theorem t_isN {E : Enc α} {h : ∀ a, E.f a ≠ .none} {v : Option α} {j pos'} (ha : Ev bz X Γ a ((eO E h).f v)) : Cv bz X Γ .Is a (.Constant .none j pos') (eB.f v.isNone) :=
  Cv.cast (cv_isN ha) (by
    cases v with
    | none => rfl
    | some x =>
      show PyData.bool (isNon (E.f x)) = _
      have := h x
      cases q : E.f x <;> first | rfl | exact absurd q this)
theorem t_notN {E : Enc α} {h : ∀ a, E.f a ≠ .none} {v : Option α} {j pos'} (ha : Ev bz X Γ a ((eO E h).f v)) : Cv bz X Γ .IsNot a (.Constant .none j pos') (eB.f v.isSome) :=
  Cv.cast (cv_notN ha) (by
    cases v with
    | none => rfl
    | some x =>
      show PyData.bool (!isNon (E.f x)) = _
      have := h x
      cases q : E.f x <;> first | rfl | exact absurd q this)
theorem st_letD {i : Nat} (x : α) (f : α → PyData) (h : S1 X Γ s (fun G => G = Γ.set i (.val (f x))) R) (hs : ∀ v, v = x → St X (Γ.set i (.val (f v))) ss N R) : St X Γ (s :: ss) N R := st_to h (hs x rfl)
end
/-- a, b = e, e a pair -/
theorem st_tup2 {i j : Nat} {x y : Str} {px py tpos pos : Pos} {kt} {X : Cx} {Γ : DEnv} {e : Expr} {ss : List Stmt} {N : DEnv → Prop} {R : PyData → DEnv → Prop} {α β : Type} (E : Enc α) (F : Enc β) (v : α × β) (h : Ev false X Γ e ((eP E F).f v)) (g : XG X.calm X.A X.N) (hs : ∀ u w, u = v.1 → w = v.2 → St X ((Γ.set i (.val (E.f u))).set j (.val (F.f w))) ss N R) (hi : X.N[i]? = some x := by rfl) (hj : X.N[j]? = some y := by rfl)
    (hx : Loc X.env.scope x := by first | exact .inl rfl | exact .inr rfl) (hy : Loc X.env.scope y := by first | exact .inl rfl | exact .inr rfl) (hfx : X.fn x = true ∨ X.env.scope.names.lookup x = some .local := by first | exact .inl rfl | exact .inr rfl) (hfy : X.fn y = true ∨ X.env.scope.names.lookup y = some .local := by first | exact .inl rfl | exact .inr rfl)
    (hh1 : (assignEach [.Name x px, .Name y py] X.env).map (·.2) = assign (.Name x px) X.env :: (assignEach [.Name y py] X.env).map (·.2) := by rfl) (hh2 : (assignEach [.Name y py] X.env).map (·.2) = assign (.Name y py) X.env :: (assignEach [] X.env).map (·.2) := by rfl)
    (hn : (assignEach [.Name x px, .Name y py] X.env).length = 2 := by rfl) (hst : (assignEach [.Name x px, .Name y py] X.env).findIdx? (·.1) = none := by rfl)
    (hsw : swapsWithSole [.Tuple [.Name x px, .Name y py] kt tpos] e pos.line X.env = pure false := by rfl) (hw : swappedStores [.Tuple [.Name x px, .Name y py] kt tpos] e X.env = pure none := by rfl)
    (h1 : (assignEach [.Tuple [.Name x px, .Name y py] kt tpos] X.env).map (·.2) = [assign (.Tuple [.Name x px, .Name y py] kt tpos) X.env] := by rfl) : St X Γ (.Assign [.Tuple [.Name x px, .Name y py] kt tpos] e pos :: ss) N R :=
  st_to (s_tup h (pg_tup g.calm (pgs_cons (pg_name (i := i) g.nd hi hx hfx) (pgs_cons (pg_name (i := j) g.nd hj hy hfy) pgs_nil hh2) hh1) hn hst) [i, j] (bd_tup (bds_cons (bd_name (by simp)) (bds_cons (bd_name (by simp)) bds_nil))) hsw hw h1) (hs v.1 v.2 rfl rfl)
/-- a, b = e1, e2 -/
theorem st_par2 {i j : Nat} {x y : Str} {px py pt pos : Pos} {kt k2 pt2} {X : Cx} {Γ : DEnv} {a b : Expr} {ss : List Stmt} {N : DEnv → Prop} {R : PyData → DEnv → Prop} {α β : Type} (f1 : α → PyData) (f2 : β → PyData) (u : α) (v : β) (h1 : Ev false X Γ a (f1 u)) (h2 : Ev false X Γ b (f2 v)) (g : XG X.calm X.A X.N) (hs : ∀ u' v', u' = u → v' = v → St X ((Γ.set i (.val (f1 u'))).set j (.val (f2 v'))) ss N R)
    (hs1 : starEach [a, b] X.env = (false, eval a X.env) :: starEach [b] X.env := by rfl) (hs2 : starEach [b] X.env = (false, eval b X.env) :: starEach [] X.env := by rfl)
    (hi : X.N[i]? = some x := by rfl) (hj : X.N[j]? = some y := by rfl) (hij : i ≠ j := by decide)
    (hx : X.env.scope.names.lookup x = some .local := by rfl) (hy : X.env.scope.names.lookup y = some .local := by rfl)
    (hw : swappedStores [.Tuple [.Name x px, .Name y py] kt pt] (.Tuple [a, b] k2 pt2) X.env = pure (some [x, y]) := by rfl) : St X Γ (.Assign [.Tuple [.Name x px, .Name y py] kt pt] (.Tuple [a, b] k2 pt2) pos :: ss) N R :=
  st_to (s_par (av_cons h1 (av_cons h2 av_nil hs2) hs1) g hi hj hij hx hy hw) (hs u v rfl rfl)
/-! ### dicts with text keys -/
def dS {α : Type} (e : Enc α) (kvs : List (Str × α)) : PyData := .dict (kvs.map fun p => (.str p.1, e.f p.2))
def lookD {α : Type} (d : α) (kvs : List (Str × α)) (x : Str) : α := (kvs.lookup x).getD d
section
variable {B : Addr → Prop} {H : Hp} {α : Type} {e : Enc α}
theorem dbAll_nil {xs : List V} (h : DbAll B H xs []) : xs = [] := by cases h; rfl
/-- the entries of such a dict -/
theorem dS_inv {v : V} {kvs : List (Str × α)} (ne : kvs ≠ []) (h : Db B H v (dS e kvs)) : ∃ (a : Addr) (l : List (Key × V)), v = .ref a ∧ H a = some (.dK l) ∧ l.map (·.1) = kvs.map (fun p => Sum.inr p.1) ∧ DbAll B H (l.map (·.2)) (kvs.map fun p => e.f p.2) := by
  unfold dS at h
  generalize hL : (kvs.map fun p => (PyData.str p.1, e.f p.2)) = L at h
  cases h with
  | @dK a l ds nb e1 h =>
    have hlen : ds.length = l.length := by rw [← h.length, List.length_map]
    refine ⟨a, l, rfl, e1, ?_, ?_⟩
    · have := congrArg (List.map Prod.fst) hL
      rw [List.map_map, List.map_fst_zip (by simp [hlen])] at this
      clear hL h e1 nb ne
      induction kvs generalizing l ds with
      | nil =>
        cases l with
        | nil => rfl
        | cons _ _ => simp at this
      | cons p kvs ih =>
        cases l with
        | nil => simp at this
        | cons q l =>
          simp only [List.map_cons, Function.comp, List.cons.injEq] at this ⊢
          refine ⟨?_, ih (ds := ds.tail) (by simp [hlen]) this.2⟩
          obtain ⟨k, v⟩ := q
          cases k with
          | inl i => simp [keyD] at this
          | inr x => simp [keyD] at this; rw [this.1]
    · have := congrArg (List.map Prod.snd) hL
      rw [List.map_map, List.map_snd_zip (by simp [hlen])] at this
      rw [show (fun p : Str × α => e.f p.2) = Prod.snd ∘ fun p : Str × α => (PyData.str p.1, e.f p.2) from rfl, this]
      exact h
  | @dT a l ds nb e1 h =>
    exfalso
    cases kvs with
    | nil => exact ne rfl
    | cons p kvs =>
      cases l with
      | nil => simp at hL
      | cons q l =>
        cases ds with
        | nil => simp at hL
        | cons d ds => simp at hL
theorem valV_of : ∀ {l : List (Key × V)} {kvs : List (Str × α)} (x : Str) (y : α), l.map (·.1) = kvs.map (fun p => Sum.inr p.1) → DbAll B H (l.map (·.2)) (kvs.map fun p => e.f p.2) → kvs.lookup x = some y → ∃ v, valV l (.inr x) = some v ∧ Db B H v (e.f y)
  | [], [], _, _, _, _, h => by simp at h
  | [], _ :: _, _, _, h, _, _ => by simp at h
  | _ :: _, [], _, _, h, _, _ => by simp at h
  | q :: l, p :: kvs, x, y, h1, h2, h3 => by
    simp only [List.map_cons, List.cons.injEq] at h1
    rw [List.map_cons, List.map_cons] at h2
    cases h2 with
    | cons a t =>
      rw [List.lookup_cons] at h3
      by_cases hx : p.1 = x
      · have : (x == p.1) = true := by simp [hx]
        rw [this] at h3
        simp at h3
        rw [← h3]
        exact ⟨q.2, valV_pos (by rw [h1.1, hx]), a⟩
      · have : (x == p.1) = false := by simpa using fun z => hx z.symm
        rw [this] at h3
        obtain ⟨v, e1, e2⟩ := valV_of x y h1.2 t h3
        exact ⟨v, by rw [valV_neg (by rw [h1.1]; simpa using hx)]; exact e1, e2⟩
theorem lookup_mem {kvs : List (Str × α)} {x : Str} (h : x ∈ kvs.map (·.1)) : ∃ y, kvs.lookup x = some y := by
  induction kvs with
  | nil => simp at h
  | cons p kvs ih =>
    rw [List.lookup_cons]
    by_cases hx : x = p.1
    · exact ⟨p.2, by simp [hx]⟩
    · have : (x == p.1) = false := by simpa using hx
      rw [this]
      exact ih (by simpa [hx] using h)
end
section
variable {X : Cx} {bz : Bool} {Γ : DEnv} {a b e1 e2 i o : Expr} {pos p p2 pos2 : Pos} {α : Type} {d1 d2 : PyData}
/-- d[x], x a key -/
theorem t_dget (E : Enc α) (dv : α) (kvs : List (Str × α)) (x : Str) (g : XG X.calm X.A X.N) (ho : Ev bz X Γ o (dS E kvs)) (hi : Ev bz X Γ i (.str x)) (hx : x ∈ kvs.map (·.1)) (hs : NoSl i := by intro _ _; rfl) : Ev bz X Γ (.Subscript o i pos) (E.f (lookD dv kvs x)) :=
  PE_mono (pe_dget (by have := g.un; omega) ho hi hs) fun σ H Q ⟨c, R, k⟩ => ⟨c, R, fun v H1 s1 h1 => ⟨c, R.same s1, fun u H2 s2 h2 => by
    cases h2
    obtain ⟨y, hy⟩ := lookup_mem hx
    have ne : kvs ≠ [] := fun z => by subst z; simp at hx
    obtain ⟨a, l, rfl, e1, e2, e3⟩ := dS_inv ne (h1.same s2)
    obtain ⟨v, v1, v2⟩ := valV_of x y e2 e3 hy
    refine ⟨a, v, rfl, ?_, k v H2 (s1.trans s2) ?_⟩
    · have := DGet.k (k := .inr x) e1
      rw [v1] at this
      exact this
    · unfold lookD
      rw [hy]
      exact v2⟩⟩
theorem mergeK_nodup : ∀ (kvs : List (Key × V)) (acc : List (Key × V)), (acc ++ kvs).map (·.1) |>.Nodup → mergeK acc kvs = acc ++ kvs
  | [], acc, _ => by simp [mergeK]
  | kv :: kvs, acc, h => by
    have h' : valV acc kv.1 = none := by
      rw [List.map_append, List.map_cons] at h
      have hn : kv.1 ∉ acc.map (·.1) := fun z => by
        have := (List.nodup_append.mp h).2.2 _ z _ List.mem_cons_self
        exact this rfl
      unfold valV
      rw [List.find?_eq_none.mpr]
      · rfl
      · intro x hx
        simpa using fun z => hn (List.mem_map.mpr ⟨x, hx, z⟩)
    have e : mergeK acc (kv :: kvs) = mergeK (putK acc kv.1 kv.2) kvs := rfl
    rw [e, putK_new _ h', mergeK_nodup kvs _ (by simpa using h)]
    simp
theorem t_dictzip (E : Enc α) (ks : List Str) (vs : List α) (g : XG X.calm X.A X.N) (hm : X.mg "dict" = none) (hz : X.mg "zip" = none) (ha : Ev false X Γ e1 d1) (hb : Ev false X Γ e2 d2) (h1 : isSeq d1 (ks.map eN.f)) (h2 : isSeq d2 (vs.map E.f)) (hk : ks.Nodup) (hl : ks.length = vs.length)
    (hg : Gl X "dict" := by rfl) (hg2 : Gl X "zip" := by rfl)
    (hs : starEach [e1, e2] X.env = (false, eval e1 X.env) :: starEach [e2] X.env := by rfl) (hs2 : starEach [e2] X.env = (false, eval e2 X.env) :: starEach [] X.env := by rfl) (hpl : (backTo pos2 (starEach [e2] X.env)).any (·.1) = false := by rfl)
    (hs0 : starEach [.Call (.Name "zip" p2) [e1, e2] [] pos2] X.env = (false, eval (.Call (.Name "zip" p2) [e1, e2] [] pos2) X.env) :: starEach [] X.env := by rfl) (hpl0 : (backTo pos (starEach [] X.env)).any (·.1) = false := by rfl) :
    Ev false X Γ (.Call (.Name "dict" p) [.Call (.Name "zip" p2) [e1, e2] [] pos2] [] pos) (dS E (ks.zip vs)) :=
  PE_mono (pe_dictZip g.calm hg hm hg2 hz (pa_cons ha (pa_cons hb pa_nil hs2) hs) hs hpl hs0 hpl0) fun σ H Q ⟨c, R, k⟩ => ⟨c, R, fun v H1 s1 q1 => ⟨c, R.same s1, fun u H2 s2 q2 => by
    obtain ⟨t1, a1, xs, rfl, z1, g1, _, f1⟩ := sq_of (q1.same s2) h1 fl_f
    obtain ⟨t2, a2, ys, rfl, z2, g2, _, f2⟩ := sq_of q2 h2 fl_f
    have ex : xs = ks.map V.str := by
      have : ∀ (xs : List V) (ks : List Str), DbAll c.B H2 xs (ks.map eN.f) → xs = ks.map V.str := by
        intro xs
        induction xs with
        | nil => intro ks h; cases ks with
          | nil => rfl
          | cons _ _ => cases h
        | cons x xs ih => intro ks h; cases ks with
          | nil => cases h
          | cons k ks =>
            cases h with
            | cons a t => cases a; rw [ih ks t]; rfl
      exact this xs ks f1
    subst ex
    have ly : ks.length = ys.length := by rw [f2.length, List.length_map, hl]
    refine ⟨t1, t2, a1, a2, (ks.map Sum.inr).zip ys, rfl, ?_, ?_, fun q hq => k _ _ ((s1.trans s2).trans (same_new hq _)) ?_⟩
    · rw [show (fun p : Key × V => kV p.1) = kV ∘ Prod.fst from rfl, ← List.map_map, List.map_fst_zip (by simp [ly]), List.map_map]
      exact g1
    · rw [List.map_snd_zip (by simp [ly])]
      exact g2
    · have nd : ([] ++ (ks.map Sum.inr).zip ys : List (Key × V)).map (·.1) |>.Nodup := by
        rw [List.nil_append, List.map_fst_zip (by simp [ly])]
        exact List.Pairwise.map _ (fun a b h z => h (by simpa using z)) hk
      rw [mergeK_nodup _ [] nd, List.nil_append]
      have e3 : dS E (ks.zip vs) = .dict ((((ks.map Sum.inr).zip ys).map fun p : Key × V => keyD p.1).zip (vs.map E.f)) := by
        rw [show (fun p : Key × V => keyD p.1) = keyD ∘ Prod.fst from rfl, ← List.map_map, List.map_fst_zip (by simp [ly]), List.map_map]
        unfold dS
        rw [List.zip_map]
        rfl
      rw [e3]
      refine .dK (fun z => bn_new (bz := false) (R.same (s1.trans s2)) hq z) upd_same ?_
      rw [List.map_snd_zip (by simp [ly])]
      exact f2.same (same_new hq _)⟩⟩
end
end DL

namespace DL
open PySem PySem.Spec PyProof.Rows L2
section
variable {prog : Program} {w : World} {A : Around} {E : Value → Shared → Prop} {s : Shared} {z TI TO T i1 i2 i3 : Addr} {fp1 fp2 fp3 : List Addr} {n1 n2 n3 i : Nat} {P1 P2 P3 : Nat → Value → Prop} {St1 St2 St3 : Nat → Heap → Prop} {f : Bool} {oT : Obj}
theorem zipH3_item {Q : Value → Shared → Prop} (S : ZipSep3 z TI TO i1 i2 i3 fp1 fp2 fp3) (D1 : Draws prog w A i1 fp1 n1 P1 St1) (D2 : Draws prog w A i2 fp2 n2 P2 St2) (D3 : Draws prog w A i3 fp3 n3 P3 St3)
    (hz : IsZipHeld s.heap z TI TO T f) (hT : s.heap.get? T = some oT) (hTI : IsTupOf3 s.heap TI (.ref i1) (.ref i2) (.ref i3)) (st1 : St1 i s.heap) (st2 : St2 i s.heap) (st3 : St3 i s.heap) (hlt1 : i < n1) (hlt2 : i < n2) (hlt3 : i < n3)
    (hQ : ∀ x y u h' tk, P1 i x → P2 i y → P3 i u → IsZipHeld h' z TI TO T true → St1 (i + 1) h' → St2 (i + 1) h' → St3 (i + 1) h' → IsTupOf3 h' s.heap.objs.size x y u → h'.objs.size = s.heap.objs.size + 1 →
      (∀ c o, c ≠ z → c ≠ i1 → c ≠ i2 → c ≠ i3 → s.heap.get? c = some o → h'.get? c = some o) → Q (.ref s.heap.objs.size) { s with heap := h', toks := tk }) :
    wpAny (model prog w) A (Builtin.«zip.__next__» ⟨[.ref z], []⟩) (fun fin s' => ∃ v, fin = .done (.ret v) ∧ Q v s') E s := by
  show wpAny _ _ (field (.ref z) 2 >>= _) _ _ _
  refine wpAny_bind (wpAny_field hz rfl (x := .bool false) rfl ?_)
  show wpAny _ _ (field (.ref z) 3 >>= _) _ _ _
  refine wpAny_bind (wpAny_field hz rfl (x := .ref TI) rfl ?_)
  refine wpAny_bind (wpAny_seqItems hTI rfl ?_)
  show wpAny _ _ (Builtin.SmallTypes.ownedTupleIsFree (.ref z) >>= _) _ _ _
  refine wpAny_bind (wpAny_tupleHeld_zip hz hT fun h₁ hz₁ hs₁ => ?_)
  simp only [Bool.false_eq_true, if_false]
  refine wpAny_bind ?_
  rw [← Array.forIn_toList]
  simp only [List.forIn_cons, List.forIn_nil]
  refine wpAny_bind (wpAny_bind (wpAny_holding ?_))
  show wpAny _ _ (Builtin.SmallTypes.nextOf (.ref i1) >>= _) _ _ _
  refine wpAny_bind (D1.item i { s with heap := h₁ } _ _ hlt1 (over' D1 st1 hs₁ S.zf1) fun x h₂ tk1 px s1₂ hs₂ => wpAny_pure ?_)
  refine wpAny_pure ?_
  refine wpAny_bind (wpAny_bind (wpAny_holding ?_))
  show wpAny _ _ (Builtin.SmallTypes.nextOf (.ref i2) >>= _) _ _ _
  refine wpAny_bind (D2.item i { s with heap := h₂, toks := tk1 } _ _ hlt2 (over' D2 (over' D2 st2 hs₁ S.zf2) hs₂ S.sep1_2) fun y h₃ tk2 py s2₃ hs₃ => wpAny_pure ?_)
  refine wpAny_pure ?_
  refine wpAny_bind (wpAny_bind (wpAny_holding ?_))
  show wpAny _ _ (Builtin.SmallTypes.nextOf (.ref i3) >>= _) _ _ _
  refine wpAny_bind (D3.item i { s with heap := h₃, toks := tk2 } _ _ hlt3 (over' D3 (over' D3 (over' D3 st3 hs₁ S.zf3) hs₂ S.sep1_3) hs₃ S.sep2_3) fun u h₄ tk3 pu s3₄ hs₄ => wpAny_pure ?_)
  refine wpAny_pure (wpAny_pure ?_)
  show wpAny _ _ (newTuple [x, y, u] >>= _) _ _ _
  refine wpAny_bind (wpAny_newTuple ?_)
  replace hs₂ : Heap.SameBut i1 h₁ h₂ := hs₂
  replace hs₃ : Heap.SameBut i2 h₂ h₃ := hs₃
  replace hs₄ : Heap.SameBut i3 h₃ h₄ := hs₄
  have hsz : h₄.objs.size = s.heap.objs.size := by rw [hs₄.1, hs₃.1, hs₂.1, hs₁.1]
  have hz₄ : IsZipHeld h₄ z TI TO T true := hs₄.extBut _ _ S.zi3 (hs₃.extBut _ _ S.zi2 (hs₂.extBut _ _ S.zi1 hz₁))
  have hk : ∀ c o, c ≠ z → c ≠ i1 → c ≠ i2 → c ≠ i3 → s.heap.get? c = some o → h₄.get? c = some o := fun c o c1 c2 c3 c4 e => hs₄.extBut _ _ c4 (hs₃.extBut _ _ c3 (hs₂.extBut _ _ c2 (hs₁.extBut _ _ c1 e)))
  have s1₄ : St1 (i + 1) h₄ := over' D1 (over' D1 s1₂ hs₃ S.sep2_1) hs₄ S.sep3_1
  have s2₄ : St2 (i + 1) h₄ := over' D2 s2₃ hs₄ S.sep3_2
  refine wpAny_pure ⟨_, rfl, ?_⟩
  show Q (.ref h₄.objs.size) _
  have hp : IsTupOf3 (h₄.push { cls := .type "tuple", data := .seq #[x, y, u] }) h₄.objs.size x y u := Heap.get?_push_size _ rfl
  have hz4 : (h₄.push { cls := .type "tuple", data := .seq #[x, y, u] }).objs.size = h₄.objs.size + 1 := Heap.size_push ..
  rw [hsz] at hp hz4 ⊢
  exact hQ x y u _ tk3 px py pu (Heap.get?_push_of_some _ hz₄) (D1.frame _ _ _ s1₄ fun b _ o e => Heap.get?_push_of_some _ e) (D2.frame _ _ _ s2₄ fun b _ o e => Heap.get?_push_of_some _ e) (D3.frame _ _ _ s3₄ fun b _ o e => Heap.get?_push_of_some _ e) hp hz4 fun c o c1 c2 c3 c4 e => Heap.get?_push_of_some _ (hk c o c1 c2 c3 c4 e)
theorem zipH3_end {Q : Fin → Shared → Prop} (S : ZipSep3 z TI TO i1 i2 i3 fp1 fp2 fp3) (D1 : Draws prog w A i1 fp1 n1 P1 St1) (D2 : Draws prog w A i2 fp2 n2 P2 St2) (D3 : Draws prog w A i3 fp3 n3 P3 St3)
    (hz : IsZipHeld s.heap z TI TO T f) (hT : s.heap.get? T = some oT) (hTI : IsTupOf3 s.heap TI (.ref i1) (.ref i2) (.ref i3)) (st1 : St1 i s.heap) (st2 : St2 i s.heap) (st3 : St3 i s.heap) (hle1 : i ≤ n1) (hle2 : i ≤ n2) (hle3 : i ≤ n3) (hend : i = n1 ∨ i = n2 ∨ i = n3)
    (hE : ∀ h' tk e, (∀ c o, c ≠ z → c ≠ i1 → c ≠ i2 → c ≠ i3 → s.heap.get? c = some o → h'.get? c = some o) → (∃ o, h'.get? e = some o ∧ o.cls = .type "StopIteration") → E (.ref e) { s with heap := h', toks := tk }) :
    wpAny (model prog w) A (Builtin.«zip.__next__» ⟨[.ref z], []⟩) Q E s := by
  show wpAny _ _ (field (.ref z) 2 >>= _) _ _ _
  refine wpAny_bind (wpAny_field hz rfl (x := .bool false) rfl ?_)
  show wpAny _ _ (field (.ref z) 3 >>= _) _ _ _
  refine wpAny_bind (wpAny_field hz rfl (x := .ref TI) rfl ?_)
  refine wpAny_bind (wpAny_seqItems hTI rfl ?_)
  show wpAny _ _ (Builtin.SmallTypes.ownedTupleIsFree (.ref z) >>= _) _ _ _
  refine wpAny_bind (wpAny_tupleHeld_zip hz hT fun h₁ hz₁ hs₁ => ?_)
  simp only [Bool.false_eq_true, if_false]
  refine wpAny_bind ?_
  rw [← Array.forIn_toList]
  simp only [List.forIn_cons, List.forIn_nil]
  refine wpAny_bind (wpAny_bind (wpAny_holding ?_))
  show wpAny _ _ (Builtin.SmallTypes.nextOf (.ref i1) >>= _) _ _ _
  by_cases hlt1 : i < n1
  · refine wpAny_bind (D1.item i { s with heap := h₁ } _ _ hlt1 (over' D1 st1 hs₁ S.zf1) fun x h₂ tk1 px s1₂ hs₂ => wpAny_pure ?_)
    refine wpAny_pure ?_
    refine wpAny_bind (wpAny_bind (wpAny_holding ?_))
    show wpAny _ _ (Builtin.SmallTypes.nextOf (.ref i2) >>= _) _ _ _
    by_cases hlt2 : i < n2
    · have hi3 : i = n3 := by omega
      refine wpAny_bind (D2.item i { s with heap := h₂, toks := tk1 } _ _ hlt2 (over' D2 (over' D2 st2 hs₁ S.zf2) hs₂ S.sep1_2) fun y h₃ tk2 py s2₃ hs₃ => wpAny_pure ?_)
      refine wpAny_pure ?_
      refine wpAny_bind (wpAny_bind (wpAny_holding ?_))
      show wpAny _ _ (Builtin.SmallTypes.nextOf (.ref i3) >>= _) _ _ _
      refine wpAny_bind (D3.done { s with heap := h₃, toks := tk2 } _ _ (by rw [← hi3]; exact over' D3 (over' D3 (over' D3 st3 hs₁ S.zf3) hs₂ S.sep1_3) hs₃ S.sep2_3) fun h₄ e hs₄ he => ?_)
      exact hE h₄ tk2 e (fun c o c1 c2 c3 c4 x => hs₄ _ _ c4 (hs₃.extBut _ _ c3 (hs₂.extBut _ _ c2 (hs₁.extBut _ _ c1 x)))) he
    · have hi2 : i = n2 := by omega
      refine wpAny_bind (D2.done { s with heap := h₂, toks := tk1 } _ _ (by rw [← hi2]; exact over' D2 (over' D2 st2 hs₁ S.zf2) hs₂ S.sep1_2) fun h₃ e hs₃ he => ?_)
      exact hE h₃ tk1 e (fun c o c1 c2 c3 _ x => hs₃ _ _ c3 (hs₂.extBut _ _ c2 (hs₁.extBut _ _ c1 x))) he
  · have hi1 : i = n1 := by omega
    refine wpAny_bind (D1.done { s with heap := h₁ } _ _ (by rw [← hi1]; exact over' D1 st1 hs₁ S.zf1) fun h₂ e hs₂ he => ?_)
    exact hE h₂ s.toks e (fun c o c1 c2 _ _ x => hs₂ _ _ c2 (hs₁.extBut _ _ c1 x)) he
theorem nextH3_item {Q : Option Value → Shared → Prop} (S : ZipSep3 z TI TO i1 i2 i3 fp1 fp2 fp3) (D1 : Draws prog w A.in1 i1 fp1 n1 P1 St1) (D2 : Draws prog w A.in1 i2 fp2 n2 P2 St2) (D3 : Draws prog w A.in1 i3 fp3 n3 P3 St3)
    (hz : IsZipHeld s.heap z TI TO T f) (hT : s.heap.get? T = some oT) (hTI : IsTupOf3 s.heap TI (.ref i1) (.ref i2) (.ref i3)) (st1 : St1 i s.heap) (st2 : St2 i s.heap) (st3 : St3 i s.heap) (hlt1 : i < n1) (hlt2 : i < n2) (hlt3 : i < n3)
    (hQ : ∀ x y u h' tk, P1 i x → P2 i y → P3 i u → IsZipHeld h' z TI TO T true → St1 (i + 1) h' → St2 (i + 1) h' → St3 (i + 1) h' → IsTupOf3 h' s.heap.objs.size x y u → h'.objs.size = s.heap.objs.size + 1 →
      (∀ c o, c ≠ z → c ≠ i1 → c ≠ i2 → c ≠ i3 → s.heap.get? c = some o → h'.get? c = some o) → Q (some (.ref s.heap.objs.size)) { s with heap := h', toks := tk }) :
    wpAny (model prog w) A (pyNext (.ref z)) Q E s := by
  have hTy : s.TypeIs (.ref z) "zip" := ⟨_, hz, rfl⟩
  unfold pyNext
  exact wpAny_bind (wpAny_attempt (wpAny_callSpecial?_slot (name := Str.ofString "__next__") hTy F.slot_zip_next
    (wpAny_call_entry F.slot_zip_next hTy F.entry_zip_next
      (zipH3_item S D1 D2 D3 hz hT hTI st1 st2 st3 hlt1 hlt2 hlt3 fun x y u h' tk a0 b0 c0 a1 a3 a4 a5 a6 a7 a8 => wpAny_pure (hQ x y u h' tk a0 b0 c0 a1 a3 a4 a5 a6 a7 a8)) (F.args_zip_next_1 _))))
theorem nextH3_end {Q : Option Value → Shared → Prop} (S : ZipSep3 z TI TO i1 i2 i3 fp1 fp2 fp3) (D1 : Draws prog w A.in1 i1 fp1 n1 P1 St1) (D2 : Draws prog w A.in1 i2 fp2 n2 P2 St2) (D3 : Draws prog w A.in1 i3 fp3 n3 P3 St3)
    (hz : IsZipHeld s.heap z TI TO T f) (hT : s.heap.get? T = some oT) (hTI : IsTupOf3 s.heap TI (.ref i1) (.ref i2) (.ref i3)) (st1 : St1 i s.heap) (st2 : St2 i s.heap) (st3 : St3 i s.heap) (hle1 : i ≤ n1) (hle2 : i ≤ n2) (hle3 : i ≤ n3) (hend : i = n1 ∨ i = n2 ∨ i = n3)
    (hQ : ∀ h' tk, (∀ c o, c ≠ z → c ≠ i1 → c ≠ i2 → c ≠ i3 → s.heap.get? c = some o → h'.get? c = some o) → Q none { s with heap := h', toks := tk }) : wpAny (model prog w) A (pyNext (.ref z)) Q E s := by
  have hTy : s.TypeIs (.ref z) "zip" := ⟨_, hz, rfl⟩
  unfold pyNext
  refine wpAny_bind (wpAny_attempt (wpAny_callSpecial?_slot (name := Str.ofString "__next__") hTy F.slot_zip_next
    (wpAny_call_entry F.slot_zip_next hTy F.entry_zip_next (zipH3_end S D1 D2 D3 hz hT hTI st1 st2 st3 hle1 hle2 hle3 hend fun h' tk e hk he => ?_) (F.args_zip_next_1 _))))
  obtain ⟨o, ho, hc⟩ := he
  refine wpAny_bind (wpAny_isInstance (T := "StopIteration") (b := true) ⟨o, ho, hc⟩ isSubtype_stop ?_)
  exact wpAny_pure (hQ _ _ hk)
end
end DL

namespace DL
open PySem PySem.Spec PyProof.Rows L2
/-! ### several new objects at once -/
def updL (H : Hp) : List (Addr × HO) → Hp
  | [] => H
  | p :: l => upd (updL H l) p.1 p.2
theorem updL_out {H : Hp} : ∀ {l : List (Addr × HO)} {b : Addr}, (∀ p ∈ l, p.1 ≠ b) → updL H l b = H b
  | [], _, _ => rfl
  | p :: l, b, h => by
    show upd (updL H l) p.1 p.2 b = H b
    rw [upd_ne (Ne.symm (h p List.mem_cons_self))]
    exact updL_out fun q hq => h q (List.mem_cons_of_mem _ hq)
theorem updL_in {H : Hp} : ∀ {l : List (Addr × HO)} {p : Addr × HO}, (l.map (·.1)).Nodup → p ∈ l → updL H l p.1 = some p.2
  | [], _, _, h => nomatch h
  | q :: l, p, nd, h => by
    show upd (updL H l) q.1 q.2 p.1 = some p.2
    rcases List.mem_cons.mp h with rfl | h
    · exact upd_same
    · have hne : p.1 ≠ q.1 := fun z => (List.nodup_cons.mp nd).1 (List.mem_map.mpr ⟨p, h, z⟩)
      rw [upd_ne hne]
      exact updL_in (List.nodup_cons.mp nd).2 h
theorem updL_some {H : Hp} {l : List (Addr × HO)} {b : Addr} {u : HO} (e : updL H l b = some u) : (∃ p ∈ l, p.1 = b ∧ p.2 = u) ∨ H b = some u := by
  induction l with
  | nil => exact .inr e
  | cons p l ih =>
    by_cases hb : b = p.1
    · subst hb
      have : updL H (p :: l) p.1 = some p.2 := upd_same
      rw [this] at e
      cases e
      exact .inl ⟨p, List.mem_cons_self, rfl, rfl⟩
    · have : updL H (p :: l) b = updL H l b := upd_ne hb
      rw [this] at e
      rcases ih e with ⟨q, hq, h1, h2⟩ | h
      · exact .inl ⟨q, List.mem_cons_of_mem _ hq, h1, h2⟩
      · exact .inr h
theorem laidL {X : Cx} {pins : List (Addr × Obj)} {σ : L2.St} {H : Hp} {s : Shared} {h' : Heap} {l : List (Addr × HO)} {t' : Nat} (I : L2.Inv X pins σ H s) (k : ∀ b u, s.heap.get? b = some u → h'.get? b = some u) (hp : ∀ p ∈ l, s.heap.objs.size ≤ p.1)
    (new : ∀ p ∈ l, ObjOk X.prog X.w (updL H l) h' p.1 p.2) : L2.Inv X pins σ (updL H l) { s with heap := h', toks := t' } := by
  have hn : ∀ p ∈ l, H p.1 = none := fun p h => I.hok.fresh (hp p h)
  have old : ∀ b o, s.heap.get? b = some o → updL H l b = H b := fun b o e => updL_out fun p h z => by
    have := hp p h
    rw [z] at this
    exact absurd (Heap.lt_size e) (Nat.not_lt.mpr this)
  have kept : ∀ b u, H b = some u → updL H l b = some u := fun b u e => by
    rw [updL_out fun p h z => by rw [← z, hn p h] at e; cases e]
    exact e
  refine I.un (H' := updL H l) ⟨fun b u q _ _ _ => k b u q, fun b u q _ _ _ => ⟨u.slots, k b u q⟩, fun b u q n _ => by rw [old b u q]; exact n, fun b u q _ => ⟨u, k b u q⟩, fun b xs q => kept b _ q, fun b o u q => kept b _ q, ?_⟩ fun b u e => ?_
  · intro b ps q
    exact ⟨#[], by rw [kept b _ q]; simp⟩
  · rcases updL_some e with ⟨p, h, rfl, rfl⟩ | e
    · exact new p h
    · exact (I.hok b u e).stay (fun c v _ q => k c v q) (fun c q => kept c _ q) fun c xs q => kept c _ q
theorem zip_no_len : typeLookup (.type "zip") "__len__" = pure none := am_miss_of_fast (by decide +kernel)
theorem zip_no_hint : typeLookup (.type "zip") "__length_hint__" = pure none := am_miss_of_fast (by decide +kernel)
section
variable {prog : Program} {w : World} {A : Around} {z TI TO i1 i2 i3 a1 a2 a3 S : Addr} {b1 b2 b3 : Bool} {xs ys us : Array Value} {N : Nat}
/-- the zip object and what it walks, before its turn i -/
def Zst (z TI TO i1 i2 i3 a1 a2 a3 S : Addr) (b1 b2 b3 : Bool) (xs ys us : Array Value) (i : Nat) (h : Heap) : Prop := IsTupOf3 h TI (.ref i1) (.ref i2) (.ref i3) ∧ (ItA b1 h i1 a1 i ∧ IsA b1 h a1 xs) ∧ (ItA b2 h i2 a2 i ∧ IsA b2 h a2 ys) ∧ (ItA b3 h i3 a3 i ∧ IsA b3 h a3 us) ∧
  ((IsZip h z TI TO .none ∧ ∃ a b c, IsTupOf3 h TO a b c) ∨ ∃ T f oT, IsZipHeld h z TI TO T f ∧ h.get? T = some oT ∧ T ≠ z ∧ T ≠ i1 ∧ T ≠ i2 ∧ T ≠ i3 ∧ T ≠ S)
/-- the tuples that were made -/
def Made (xs ys us : Array Value) (N : Nat) (h : Heap) (Ts : List Addr) : Prop := ∀ (j : Nat) (T : Addr), Ts[j]? = some T → N ≤ T ∧ ∃ x y u, xs[j]? = some x ∧ ys[j]? = some y ∧ us[j]? = some u ∧ IsTupOf3 h T x y u
theorem Made.mono {h h' : Heap} {Ts : List Addr} (m : Made xs ys us N h Ts) (k : ∀ b o, N ≤ b → h.get? b = some o → h'.get? b = some o) : Made xs ys us N h' Ts := fun j T e => let ⟨h1, x, y, u, q1, q2, q3, q4⟩ := m j T e; ⟨h1, x, y, u, q1, q2, q3, k _ _ h1 q4⟩
theorem far {a b N : Nat} (h : a < N) (h2 : N ≤ b) : b ≠ a := fun q => absurd h2 (Nat.not_le.mpr (q ▸ h))
theorem extZ3_loop {R : Result → Shared → Prop} (hh : A.handled = none) (D : Sep3 z TI TO i1 i2 i3 a1 a2 a3) (res : Value) (hS : S ≠ z ∧ S ≠ TI ∧ S ≠ TO ∧ S ≠ i1 ∧ S ≠ i2 ∧ S ≠ i3 ∧ S ≠ a1 ∧ S ≠ a2 ∧ S ≠ a3)
    (hN : z < N ∧ TI < N ∧ TO < N ∧ i1 < N ∧ i2 < N ∧ i3 < N ∧ S < N) (n : Nat) (hn1 : xs.size = n) (hn2 : ys.size = n) (hn3 : us.size = n) (hn : n ≤ sizeLine) :
    ∀ (k i : Nat) (s : Shared) (Ts : List Addr) (c : Nat), n - i = k → i ≤ n → Zst z TI TO i1 i2 i3 a1 a2 a3 S b1 b2 b3 xs ys us i s.heap → N ≤ s.heap.objs.size → s.heap.get? S = some { cls := .type "list", dict := none, data := .seq (Ts.map Value.ref).toArray c, slots := #[] } → Ts.length = i →
    Made xs ys us N s.heap Ts → Ts.Nodup → (∀ T ∈ Ts, T < s.heap.objs.size) →
    (∀ h' tk Ts' c', (∀ b o, b ≠ z → b ≠ TO → b ≠ i1 → b ≠ i2 → b ≠ i3 → b ≠ S → s.heap.get? b = some o → h'.get? b = some o) → h'.get? S = some { cls := .type "list", dict := none, data := .seq (Ts'.map Value.ref).toArray c', slots := #[] } → Ts'.length = n → Made xs ys us N h' Ts' → Ts'.Nodup → R (.ok (.ret res)) { s with heap := h', toks := tk }) →
    codeAny (model prog w) A (.builtin "list.extend.loop" ⟨[.ref S, .ref z, res], []⟩) R s := by
  have SP := D.sep
  obtain ⟨⟨d1, d2, d3, d4, d5, d6, d7, d8, d9, g1, g2, g3, g4, g5, g6⟩, dk⟩ := id D
  have hA1 : A.in1.in1.handled = none := hh
  have D1 := drA (prog := prog) (w := w) (A := A.in1.in1) hA1 b1 i1 a1 (dk i1 (by simp)).1.symm xs
  have D2 := drA (prog := prog) (w := w) (A := A.in1.in1) hA1 b2 i2 a2 (dk i2 (by simp)).2.1.symm ys
  have D3 := drA (prog := prog) (w := w) (A := A.in1.in1) hA1 b3 i3 a3 (dk i3 (by simp)).2.2.symm us
  obtain ⟨s1, s2, s3, s4, s5, s6, s7, s8, s9⟩ := hS
  obtain ⟨m1, m2, m3, m4, m5, m6, m7⟩ := hN
  intro k
  induction k with
  | zero =>
    intro i s Ts c hk hi hst hNs hSo hlen hm hnd hlt hR
    have hin : i = n := by omega
    subst hin
    refine codeAny_builtin F.entry_extend_loop ?_
    rw [Around.under_plainId F.plain_extend_loop _]
    show wpAny _ A.in1 (pyNext (.ref z) >>= _) _ _ s
    obtain ⟨hTI, st1, st2, st3, hz⟩ := hst
    have fin : ∀ h' tk, (∀ b o, b ≠ z → b ≠ TO → b ≠ i1 → b ≠ i2 → b ≠ i3 → s.heap.get? b = some o → h'.get? b = some o) → R (.ok (.ret res)) { s with heap := h', toks := tk } := fun h' tk kp =>
      hR h' tk Ts c (fun b o q1 q2 q3 q4 q5 _ e => kp b o q1 q2 q3 q4 q5 e) (kp S _ s1 s3 s4 s5 s6 hSo) hlen (hm.mono fun b o hb e => kp b o (far m1 hb) (far m3 hb) (far m4 hb) (far m5 hb) (far m6 hb) e) hnd
    rcases hz with ⟨hz, a, b, c', hTO⟩ | ⟨T, f, oT, hz, hT, r1, r2, r3, r4, r5⟩
    · exact wpAny_bind (wpAny_pyNext_zipD3_end SP D1 D2 D3 hz hTI hTO st1 st2 st3 (by omega) (by omega) (by omega) (by omega) fun h' tk kp => wpAny_pure (fin h' tk kp))
    · exact wpAny_bind (nextH3_end SP D1 D2 D3 hz hT hTI st1 st2 st3 (by omega) (by omega) (by omega) (by omega) fun h' tk kp => wpAny_pure (fin h' tk fun b o q1 _ q3 q4 q5 e => kp b o q1 q3 q4 q5 e))
  | succ k ih =>
    intro i s Ts c hk hi hst hNs hSo hlen hm hnd hlt hR
    have hil : i < n := by omega
    refine codeAny_builtin F.entry_extend_loop ?_
    rw [Around.under_plainId F.plain_extend_loop _]
    show wpAny _ A.in1 (pyNext (.ref z) >>= _) _ _ s
    obtain ⟨hTI, st1, st2, st3, hz⟩ := hst
    have lt : ∀ {c o}, s.heap.get? c = some o → s.heap.objs.size ≠ c := fun e => Nat.ne_of_gt (Heap.lt_size e)
    have n1 : s.heap.objs.size ≠ i1 := let ⟨_, e, _⟩ := st1.1.obj; lt e
    have n2 : s.heap.objs.size ≠ i2 := let ⟨_, e, _⟩ := st2.1.obj; lt e
    have n3 : s.heap.objs.size ≠ i3 := let ⟨_, e, _⟩ := st3.1.obj; lt e
    have step : ∀ x y u h' tk f T0 oT0, xs[i]? = some x → ys[i]? = some y → us[i]? = some u → IsZipHeld h' z TI TO T0 f → h'.get? T0 = some oT0 → T0 ≠ z → T0 ≠ i1 → T0 ≠ i2 → T0 ≠ i3 → T0 ≠ S → IsTupOf3 h' TI (.ref i1) (.ref i2) (.ref i3) → (ItA b1 h' i1 a1 (i + 1) ∧ IsA b1 h' a1 xs) → (ItA b2 h' i2 a2 (i + 1) ∧ IsA b2 h' a2 ys) → (ItA b3 h' i3 a3 (i + 1) ∧ IsA b3 h' a3 us) → IsTupOf3 h' s.heap.objs.size x y u → h'.objs.size = s.heap.objs.size + 1 →
        (∀ b o, b ≠ z → b ≠ TO → b ≠ i1 → b ≠ i2 → b ≠ i3 → s.heap.get? b = some o → h'.get? b = some o) → wpAny (model prog w) A.in1 (updateSeq S (·.push (.ref s.heap.objs.size)) >>= fun _ => again (.builtin "list.extend.loop" ⟨[.ref S, .ref z, res], []⟩)) (fun fin s' => match fin with | .done f => R (.ok f) s' | .again c' => c'.quiet = true ∧ codeAny (model prog w) A c' R s') (fun e s' => R (.error e) s') { s with heap := h', toks := tk } := by
      intro x y u h' tk f T0 oT0 ex ey eu hz' hT0 p1 p2 p3 p4 p5 hTI' t1 t2 t3 hT' hsz kp
      have hSo' := kp S _ s1 s3 s4 s5 s6 hSo
      have hSlt : S < s.heap.objs.size := Heap.lt_size hSo
      refine wpAny_bind (wpAny_updateSeq hSo' rfl (wpAny_pure ⟨plainId_quiet F.plain_extend_loop _, ?_⟩) (by simp [hlen]; omega) (by simp [hlen]; omega))
      have sb : ∀ b o, b ≠ S → h'.get? b = some o → (h'.update S (Obj.mapSeq (·.push (Value.ref s.heap.objs.size)))).get? b = some o := fun b o hb e => (Heap.get?_update_other _ _ (Ne.symm hb)).trans e
      have hsz2 : (h'.update S (Obj.mapSeq (·.push (Value.ref s.heap.objs.size)))).objs.size = s.heap.objs.size + 1 := by rw [Heap.size_update, hsz]
      have obS : ∀ {b' : Bool} {hh : Heap} {it a : Addr} {j : Nat}, it ≠ S → ItA b' h' it a j → ItA b' (h'.update S (Obj.mapSeq (·.push (Value.ref s.heap.objs.size)))) it a j := fun hne x => x.at' fun o e => sb _ o hne e
      obtain ⟨c2, hS2⟩ : ∃ c2, (h'.update S (Obj.mapSeq (·.push (Value.ref s.heap.objs.size)))).get? S = some { cls := .type "list", dict := none, data := .seq ((Ts.map Value.ref).toArray.push (Value.ref s.heap.objs.size)) c2, slots := #[] } := ⟨_, Heap.get?_update_self (Obj.mapSeq (·.push (Value.ref s.heap.objs.size))) hSo' rfl⟩
      have ea : (Ts.map Value.ref).toArray.push (Value.ref s.heap.objs.size) = ((Ts ++ [s.heap.objs.size]).map Value.ref).toArray := by simp
      rw [ea] at hS2
      refine ih (i + 1) _ (Ts ++ [s.heap.objs.size]) c2 (by omega) hil ⟨sb _ _ (Ne.symm s2) hTI', ⟨t1.1.at' fun o e => sb _ o (Ne.symm s4) e, t1.2.at' fun o e => sb _ o (Ne.symm s7) e⟩, ⟨t2.1.at' fun o e => sb _ o (Ne.symm s5) e, t2.2.at' fun o e => sb _ o (Ne.symm s8) e⟩, ⟨t3.1.at' fun o e => sb _ o (Ne.symm s6) e, t3.2.at' fun o e => sb _ o (Ne.symm s9) e⟩,
        .inr ⟨T0, f, _, sb _ _ (Ne.symm s1) hz', sb _ _ p5 hT0, p1, p2, p3, p4, p5⟩⟩ (by show N ≤ _; rw [hsz2]; exact Nat.le_succ_of_le hNs) hS2 (by simp [hlen]) ?_ ?_ ?_ fun h'' tk'' Ts' c' kp' hS'' hl' hm' hnd' => ?_
      · intro j T e
        by_cases hj : j < Ts.length
        · rw [List.getElem?_append_left hj] at e
          obtain ⟨q0, x', y', u', q1, q2, q3, q4⟩ := hm j T e
          refine ⟨q0, x', y', u', q1, q2, q3, sb _ _ (far m7 q0) (kp _ _ (far m1 q0) (far m3 q0) (far m4 q0) (far m5 q0) (far m6 q0) q4)⟩
        · rw [List.getElem?_append_right (by omega)] at e
          have hj' : j = Ts.length := by
            have := (List.getElem?_eq_some_iff.mp e).1
            simp at this
            omega
          subst hj'
          simp at e
          subst e
          rw [hlen]
          exact ⟨hNs, x, y, u, ex, ey, eu, sb _ _ (Nat.ne_of_gt hSlt) hT'⟩
      · rw [List.nodup_append]
        refine ⟨hnd, by simp, fun a ha b hb => ?_⟩
        simp at hb
        subst hb
        exact Nat.ne_of_lt (hlt a ha)
      · intro T hT
        show T < _
        rw [hsz2]
        rcases List.mem_append.mp hT with h | h
        · exact Nat.lt_succ_of_lt (hlt T h)
        · simp at h
          rw [h]
          exact Nat.lt_succ_self _
      · exact hR h'' tk'' Ts' c' (fun b o q1 q2 q3 q4 q5 q6 e => kp' b o q1 q2 q3 q4 q5 q6 (sb b o q6 (kp b o q1 q2 q3 q4 q5 e))) hS'' hl' hm' hnd'
    rcases hz with ⟨hz, a, b, c', hTO⟩ | ⟨T, f, oT, hz, hT, r1, r2, r3, r4, r5⟩
    · refine wpAny_bind (wpAny_pyNext_zipD3_item SP D1 D2 D3 hz hTI hTO st1 st2 st3 (by omega) (by omega) (by omega) fun x y u h' tk ex ey eu hz' hTO' t1 t2 t3 hT' hsz kp => ?_)
      exact step x y u h' tk false _ _ ex ey eu hz' hT' (far m1 hNs) n1 n2 n3 (far m7 hNs) (kp _ _ d1.symm d6 d7 d8 d9 hTI) t1 t2 t3 hT' hsz kp
    · refine wpAny_bind (nextH3_item SP D1 D2 D3 hz hT hTI st1 st2 st3 (by omega) (by omega) (by omega) fun x y u h' tk ex ey eu hz' t1 t2 t3 hT' hsz kp => ?_)
      exact step x y u h' tk true T oT ex ey eu hz' (kp _ _ r1 r2 r3 r4 hT) r1 r2 r3 r4 r5 (kp _ _ d1.symm d7 d8 d9 hTI) t1 t2 t3 hT' hsz fun b o q1 _ q3 q4 q5 e => kp b o q1 q3 q4 q5 e
/-- list(zip object) -/
theorem list_initZ3 {R : Result → Shared → Prop} {s : Shared} (hh : A.handled = none) (D : Sep3 z TI TO i1 i2 i3 a1 a2 a3) (hS : S ≠ z ∧ S ≠ TI ∧ S ≠ TO ∧ S ≠ i1 ∧ S ≠ i2 ∧ S ≠ i3 ∧ S ≠ a1 ∧ S ≠ a2 ∧ S ≠ a3)
    (hN : z < N ∧ TI < N ∧ TO < N ∧ i1 < N ∧ i2 < N ∧ i3 < N ∧ S < N) (n : Nat) (hn1 : xs.size = n) (hn2 : ys.size = n) (hn3 : us.size = n) (hn : n ≤ sizeLine) (hst : Zst z TI TO i1 i2 i3 a1 a2 a3 S b1 b2 b3 xs ys us 0 s.heap) (hz0 : IsZip s.heap z TI TO .none) (hNs : N ≤ s.heap.objs.size)
    (hSo : s.heap.get? S = some { cls := .type "list", data := .seq #[] })
    (hR : ∀ h' tk Ts' c', (∀ b o, b ≠ z → b ≠ TO → b ≠ i1 → b ≠ i2 → b ≠ i3 → b ≠ S → s.heap.get? b = some o → h'.get? b = some o) → h'.get? S = some { cls := .type "list", dict := none, data := .seq (Ts'.map Value.ref).toArray c', slots := #[] } → Ts'.length = n → Made xs ys us N h' Ts' → Ts'.Nodup → R (.ok (.ret .none)) { s with heap := h', toks := tk }) :
    wpAny (model prog w) A.in1 (Builtin.«list.__init__» ⟨[.ref S, .ref z], []⟩)
      (fun fin s' => match fin with | .done f => R (.ok f) s' | .again c' => c'.quiet = true ∧ codeAny (model prog w) A c' R s') (fun e s' => R (.error e) s') s := by
  obtain ⟨s1, s2, s3, s4, s5, s6, s7, s8, s9⟩ := id hS
  have stay : ∀ h', (∀ b o, b ≠ S → s.heap.get? b = some o → h'.get? b = some o) → Zst z TI TO i1 i2 i3 a1 a2 a3 S b1 b2 b3 xs ys us 0 h' := fun h' k => by
    obtain ⟨hTI, st1, st2, st3, hz⟩ := hst
    refine ⟨k _ _ (Ne.symm s2) hTI, ⟨st1.1.at' fun o e => k _ o (Ne.symm s4) e, st1.2.at' fun o e => k _ o (Ne.symm s7) e⟩, ⟨st2.1.at' fun o e => k _ o (Ne.symm s5) e, st2.2.at' fun o e => k _ o (Ne.symm s8) e⟩, ⟨st3.1.at' fun o e => k _ o (Ne.symm s6) e, st3.2.at' fun o e => k _ o (Ne.symm s9) e⟩, ?_⟩
    rcases hz with ⟨hz, a, b, c, hTO⟩ | ⟨T, f, oT, hz, hT, r1, r2, r3, r4, r5⟩
    · exact .inl ⟨k _ _ (Ne.symm s1) hz, a, b, c, k _ _ (Ne.symm s3) hTO⟩
    · exact .inr ⟨T, f, oT, k _ _ (Ne.symm s1) hz, k _ _ r5 hT, r1, r2, r3, r4, r5⟩
  show wpAny _ A.in1 (do let old ← Builtin.List.listItems (.ref S); Builtin.List.listUpdate (.ref S) (fun _ => #[]); letGo old.toList.reverse; Builtin.List.listExtendWith (.ref S) (.ref z) .none) _ _ s
  refine wpAny_bind ?_
  unfold Builtin.List.listItems
  refine wpAny_bind (wpAny_seqItems hSo rfl (wpAny_pure ?_))
  show wpAny _ A.in1 (updateSeq S (fun _ => #[]) >>= fun _ => letGo (#[] : Array Value).toList.reverse >>= fun _ => Builtin.List.listExtendWith (.ref S) (.ref z) .none) _ _ s
  refine wpAny_bind (wpAny_updateSeq hSo rfl ?_)
  have hS₂ := Heap.get?_update_self (Obj.mapSeq (fun _ => (#[] : Array Value))) hSo rfl
  have oth : ∀ b o, b ≠ S → s.heap.get? b = some o → (s.heap.update S (Obj.mapSeq (fun _ => (#[] : Array Value)))).get? b = some o :=
    fun b o hb e => (Heap.get?_update_other _ _ (Ne.symm hb)).trans e
  refine wpAny_bind (wpAny_letGo ?_)
  have hz1 := oth _ _ (Ne.symm s1) hz0
  have hTy : Shared.TypeIs { s with heap := s.heap.update S (Obj.mapSeq (fun _ => (#[] : Array Value))) } (.ref z) "zip" := ⟨_, hz1, rfl⟩
  unfold Builtin.List.listExtendWith
  refine wpAny_bind (wpAny_typeOf hTy ?_)
  have h1 : Builtin.List.listSameRef (.ref S) (.ref z) = false := by simp [Builtin.List.listSameRef, s1]
  have h2 : (Value.type "zip" == Value.type "list") = false := by decide
  have h3 : (Value.type "zip" == Value.type "tuple") = false := by decide
  simp only [h1, h2, h3, Bool.or_false, Bool.false_eq_true, if_false]
  refine wpAny_bind (wpAny_pyIter_zip hz1 ?_)
  refine wpAny_bind (wpAny_holding ?_)
  unfold Builtin.List.listLengthHint
  refine wpAny_bind (wpAny_specialOf hTy zip_no_len ?_)
  show wpAny _ A.in1 (specialOf (Value.ref z) (Str.ofString "__length_hint__") >>= _) _ _ _
  refine wpAny_bind (wpAny_specialOf hTy zip_no_hint ?_)
  refine wpAny_pure ?_
  show wpAny _ A.in1 (rule "list.extend.makes-room" >>= fun _ => Builtin.List.listTouch (.ref S) >>= fun _ =>
    again (.builtin "list.extend.loop" ⟨[.ref S, .ref z, .none], []⟩)) _ _ _
  refine wpAny_bind (wpAny_rule ?_)
  refine wpAny_bind ?_
  show wpAny _ A.in1 (updateSeq S (·.push .none) >>= fun _ => updateSeq S (·.pop)) _ _ _
  refine wpAny_bind (wpAny_updateSeq hS₂ rfl ?_)
  have hS₃ := Heap.get?_update_self (Obj.mapSeq (·.push Value.none)) hS₂ rfl
  refine wpAny_updateSeq (hz := by seq_fits) hS₃ rfl ?_
  have hS₄ := Heap.get?_update_self (Obj.mapSeq (·.pop)) hS₃ rfl
  have oth2 : ∀ b o, b ≠ S → s.heap.get? b = some o → (((s.heap.update S (Obj.mapSeq (fun _ => (#[] : Array Value)))).update S (Obj.mapSeq (·.push Value.none))).update S (Obj.mapSeq (·.pop))).get? b = some o :=
    fun b o hb e => (Heap.get?_update_other _ _ (Ne.symm hb)).trans ((Heap.get?_update_other _ _ (Ne.symm hb)).trans (oth b o hb e))
  refine wpAny_pure ⟨plainId_quiet F.plain_extend_loop _, extZ3_loop hh D .none hS hN n hn1 hn2 hn3 hn n 0 _ [] _ rfl (Nat.zero_le _) (stay _ oth2) (by show N ≤ _; simp only [Heap.size_update]; exact hNs) hS₄ rfl (fun j T e => by simp at e) List.nodup_nil (fun T hT => nomatch hT) fun h' tk Ts' c' kp hS' hl hm hnd => ?_⟩
  exact hR h' tk Ts' c' (fun b o q1 q2 q3 q4 q5 q6 e => kp b o q1 q2 q3 q4 q5 q6 (oth2 b o q6 e)) hS' hl hm hnd
end
end DL

namespace DL
open PySem PySem.Spec PyProof.Rows L2
section
variable {prog : Program} {w : World} {A : Around} {E : Value → Shared → Prop} {s : Shared}
theorem call_listZ3 {z TI TO i1 i2 i3 a1 a2 a3 : Addr} {b1 b2 b3 : Bool} {xs ys us : Array Value} {Q : Value → Shared → Prop} (hh : A.handled = none) (D : Sep3 z TI TO i1 i2 i3 a1 a2 a3) (n : Nat) (hn1 : xs.size = n) (hn2 : ys.size = n) (hn3 : us.size = n) (hn : n ≤ sizeLine)
    (hz : IsZip s.heap z TI TO .none) (hTI : IsTupOf3 s.heap TI (.ref i1) (.ref i2) (.ref i3)) (hTO : ∃ a b c, IsTupOf3 s.heap TO a b c) (h1 : ItA b1 s.heap i1 a1 0 ∧ IsA b1 s.heap a1 xs) (h2 : ItA b2 s.heap i2 a2 0 ∧ IsA b2 s.heap a2 ys) (h3 : ItA b3 s.heap i3 a3 0 ∧ IsA b3 s.heap a3 us)
    (ha : a1 < s.heap.objs.size ∧ a2 < s.heap.objs.size ∧ a3 < s.heap.objs.size)
    (hQ : ∀ h' tk Ts c, (∀ b o, b ≠ z → b ≠ TO → b ≠ i1 → b ≠ i2 → b ≠ i3 → s.heap.get? b = some o → h'.get? b = some o) → h'.get? s.heap.objs.size = some { cls := .type "list", dict := none, data := .seq (Ts.map Value.ref).toArray c, slots := #[] } → Ts.length = n → Made xs ys us (s.heap.objs.size + 1) h' Ts → Ts.Nodup → Q (.ref s.heap.objs.size) { s with heap := h', toks := tk }) :
    wpAny (model prog w) A (call (.type "list") [.ref z]) Q E s := by
  refine callType_codes (Q₁ := fun obj s₁ => obj = .ref s.heap.objs.size ∧ s₁ = { s with heap := s.heap.push { cls := .type "list", data := .seq #[] } }) F.called_list (F.typeCall_list_1 _) F.entry_list_init
    (code_list_new _ ⟨rfl, rfl⟩) fun obj s₁ h₁ => ?_
  obtain ⟨rfl, rfl⟩ := h₁
  have hS : (s.heap.push { cls := .type "list", data := .seq #[] }).get? s.heap.objs.size = some { cls := .type "list", data := .seq #[] } := Heap.get?_push_size _ rfl
  have up : ∀ b o, s.heap.get? b = some o → (s.heap.push { cls := .type "list", data := .seq #[] }).get? b = some o := fun b o e => Heap.get?_push_of_some _ e
  obtain ⟨a, b, c, hTO⟩ := hTO
  have lt : ∀ {c o}, s.heap.get? c = some o → s.heap.objs.size ≠ c := fun e => Nat.ne_of_gt (Heap.lt_size e)
  have l1 : i1 < s.heap.objs.size := h1.1.lt
  have l2 : i2 < s.heap.objs.size := h2.1.lt
  have l3 : i3 < s.heap.objs.size := h3.1.lt
  have lz := Heap.lt_size hz
  have lTI := Heap.lt_size hTI
  have lTO := Heap.lt_size hTO
  refine ⟨⟨_, hS, rfl⟩, F.args_list_init_2 _ _, list_initZ3 (A := A.in1) (N := s.heap.objs.size + 1) hh D
    ⟨Nat.ne_of_gt lz, Nat.ne_of_gt lTI, Nat.ne_of_gt lTO, Nat.ne_of_gt l1, Nat.ne_of_gt l2, Nat.ne_of_gt l3, Nat.ne_of_gt ha.1, Nat.ne_of_gt ha.2.1, Nat.ne_of_gt ha.2.2⟩
    ⟨Nat.lt_succ_of_lt lz, Nat.lt_succ_of_lt lTI, Nat.lt_succ_of_lt lTO, Nat.lt_succ_of_lt l1, Nat.lt_succ_of_lt l2, Nat.lt_succ_of_lt l3, Nat.lt_succ_self _⟩ n hn1 hn2 hn3 hn
    ⟨up _ _ hTI, ⟨h1.1.at' fun o e => up _ o e, h1.2.at' fun o e => up _ o e⟩, ⟨h2.1.at' fun o e => up _ o e, h2.2.at' fun o e => up _ o e⟩, ⟨h3.1.at' fun o e => up _ o e, h3.2.at' fun o e => up _ o e⟩, .inl ⟨up _ _ hz, a, b, c, up _ _ hTO⟩⟩ (up _ _ hz) (by show _ ≤ (s.heap.push _).objs.size; rw [Heap.size_push]; exact Nat.le_refl _) hS fun h' tk Ts c kp hS' hl hm hnd => ?_⟩
  exact ⟨rfl, hQ h' tk Ts c (fun b o q1 q2 q3 q4 q5 e => kp b o q1 q2 q3 q4 q5 (Nat.ne_of_lt (Heap.lt_size e)) (up b o e)) hS' hl hm hnd⟩
end
/-- list(zip(e1, e2, e3)) -/
def tLZ3 (ta : TA) : TE := fun σ H Q => ta σ H fun vs H1 => ∃ (b1 b2 b3 : Bool) (a1 a2 a3 : Addr) (xs ys us : List V), vs = [.ref a1, .ref a2, .ref a3] ∧ Sq b1 H1 a1 xs ∧ Sq b2 H1 a2 ys ∧ Sq b3 H1 a3 us ∧ xs.length = ys.length ∧ xs.length = us.length ∧
  ∀ (S : Addr) (Ts : List Addr) (L : List (Addr × HO)), (∀ p ∈ L, H1 p.1 = none) → (L.map (·.1)).Nodup → (S, .lst (Ts.map .ref)) ∈ L → Ts.length = xs.length → (∀ (j : Nat) (T : Addr), Ts[j]? = some T → ∃ x y u o, xs[j]? = some x ∧ ys[j]? = some y ∧ us[j]? = some u ∧ o.dict = none ∧ (T, .frz o (.tup [x, y, u])) ∈ L) → Q (.ref S) (updL H1 L)
theorem refs_vals : ∀ Ts : List Addr, Vals (Ts.map V.ref) (Ts.map Value.ref)
  | [] => .nil
  | T :: Ts => .cons rfl (refs_vals Ts)
theorem pe_listZip3 {X : Cx} {e e2 e3 : Expr} {ta : TA} {p p2 pos pos2 : Pos} (hc : X.calm = true) (hgd : Gl X "list") (hmd : X.mg "list" = none) (hg : Gl X "zip") (hm : X.mg "zip" = none) (ha : PA X [e, e2, e3] ta)
    (hs : starEach [e, e2, e3] X.env = (false, eval e X.env) :: starEach [e2, e3] X.env := by rfl) (hpl : (backTo pos2 (starEach [e2, e3] X.env)).any (·.1) = false := by rfl)
    (hs0 : starEach [.Call (.Name "zip" p2) [e, e2, e3] [] pos2] X.env = (false, eval (.Call (.Name "zip" p2) [e, e2, e3] [] pos2) X.env) :: starEach [] X.env := by rfl) (hpl0 : (backTo pos (starEach [] X.env)).any (·.1) = false := by rfl) :
    PE X (.Call (.Name "list" p) [.Call (.Name "zip" p2) [e, e2, e3] [] pos2] [] pos) (tLZ3 ta) := by
  refine ⟨fun pins s σ H R I h => ?_⟩
  refine Call_ (ld_blt I hgd hmd PyProof.Rows.boot_list (PyProof.Rows.callWith_type1 ?_ hs0 hpl0))
  rw [hs0]
  show wpAny _ _ (spliced ((false, eval (.Call (.Name "zip" p2) [e, e2, e3] [] pos2) X.env) :: backTo pos (starEach [] X.env))) _ _ s
  refine Calls.spliced_cons (Call_ (ld_blt I hg hm PyProof.Rows.boot_zip (PyProof.Rows.callWith_type1 (thn (ha.run pos2 pins s σ H _ I h) fun vs' s1 ⟨vs, H1, I1, r1, q1⟩ => ?_) hs hpl)))
  obtain ⟨b1, b2, b3, a1, a2, a3, xs, ys, us, ex, hqx, hqy, hqu, hl1, hl2, q⟩ := q1
  subst ex
  cases r1 with
  | cons r rr =>
    cases rr with
    | cons r' rr =>
      cases rr with
      | cons r'' rr =>
        cases rr
        cases r
        cases r'
        cases r''
        obtain ⟨its, rv, p1, l0, l1⟩ := Sq.get I1 hqx
        obtain ⟨its2, rv2, p2', _, l2⟩ := Sq.get I1 hqy
        obtain ⟨its3, rv3, p3, _, l3⟩ := Sq.get I1 hqu
        refine zip_begins3 (begA b1 a1 its.toArray) (begA b2 a2 its2.toArray) (begA b3 a3 its3.toArray) p1 p2' p3 fun h' hz hTI hTO h1 h2 h3 hsz hk => ?_
        refine Calls.spliced_nil ?_
        have e1 := rv.length
        have e2 := rv2.length
        have e3 := rv3.length
        refine call_listZ3 (s := { s1 with heap := h' }) (A := X.A) (I1.ok.hd hc) (sep3_of l1 l2 l3) its.length (by simp) (by simp; omega) (by simp; omega) (by omega) hz hTI ⟨_, _, _, hTO⟩ ⟨itA_new b1 h1, p1.at' fun o e => hk _ o e⟩ ⟨itA_new b2 h2, p2'.at' fun o e => hk _ o e⟩ ⟨itA_new b3 h3, p3.at' fun o e => hk _ o e⟩
          ⟨?_, ?_, ?_⟩ fun h'' tk Ts c kp hS hl hm hnd => ?_
        · show a1 < h'.objs.size
          rw [hsz]
          exact Nat.lt_of_lt_of_le l1 (Nat.le_add_right _ _)
        · show a2 < h'.objs.size
          rw [hsz]
          exact Nat.lt_of_lt_of_le l2 (Nat.le_add_right _ _)
        · show a3 < h'.objs.size
          rw [hsz]
          exact Nat.lt_of_lt_of_le l3 (Nat.le_add_right _ _)
        · have hsz' : ({ s1 with heap := h' } : Shared).heap.objs.size = s1.heap.objs.size + 6 := hsz
          rw [hsz'] at hS hm ⊢
          have keep : ∀ b o, s1.heap.get? b = some o → h''.get? b = some o := fun b o e => by
            have hb := Heap.lt_size e
            have ne : ∀ k, b ≠ s1.heap.objs.size + k := fun k z => absurd hb (Nat.not_lt.mpr (by rw [z]; exact Nat.le_add_right _ _))
            exact kp b o (ne 5) (ne 4) (ne 0) (ne 1) (ne 2) (hk b o e)
          -- the objects
          have row : ∀ (j : Nat) (T : Addr), Ts[j]? = some T → ∃ (x y u : V) (vx vy vu : Value), xs[j]? = some x ∧ ys[j]? = some y ∧ us[j]? = some u ∧ RelV x vx ∧ RelV y vy ∧ RelV u vu ∧ s1.heap.objs.size + 7 ≤ T ∧ IsTupOf3 h'' T vx vy vu := fun j T e => by
            obtain ⟨g0, vx, vy, vu, g1, g2, g3, g4⟩ := hm j T e
            have i1 : its[j]? = some vx := by simpa using g1
            have i2 : its2[j]? = some vy := by simpa using g2
            have i3 : its3[j]? = some vu := by simpa using g3
            have back : ∀ {vs : List V} {ws : List Value} {v : Value}, Vals vs ws → ws[j]? = some v → ∃ x, vs[j]? = some x ∧ RelV x v := fun {vs ws v} r e => by
              have hlt : j < vs.length := by rw [r.length]; exact (List.getElem?_eq_some_iff.mp e).1
              obtain ⟨v', e', rr⟩ := r.get (List.getElem?_eq_getElem hlt)
              rw [e] at e'
              cases e'
              exact ⟨_, List.getElem?_eq_getElem hlt, rr⟩
            obtain ⟨x, x1, x2⟩ := back rv i1
            obtain ⟨y, y1, y2⟩ := back rv2 i2
            obtain ⟨u, u1, u2⟩ := back rv3 i3
            exact ⟨x, y, u, vx, vy, vu, x1, y1, u1, x2, y2, u2, g0, g4⟩
          have lx : Ts.length = xs.length := by rw [hl, ← e1]
          let F : Nat → HO := fun j => match Ts[j]?, xs[j]?, ys[j]?, us[j]? with
            | some T, some x, some y, some u => .frz ((h''.get? T).getD { cls := .none, data := .seq #[] }) (.tup [x, y, u])
            | _, _, _, _ => .lst []
          let L : List (Addr × HO) := (s1.heap.objs.size + 6, .lst (Ts.map .ref)) :: Ts.zipIdx.map fun p => (p.1, F p.2)
          have inL : ∀ (j : Nat) (T : Addr), Ts[j]? = some T → ∃ x y u o, xs[j]? = some x ∧ ys[j]? = some y ∧ us[j]? = some u ∧ o.dict = none ∧ (T, .frz o (.tup [x, y, u])) ∈ L := fun j T e => by
            obtain ⟨x, y, u, vx, vy, vu, x1, y1, u1, _, _, _, _, g4⟩ := row j T e
            refine ⟨x, y, u, { cls := .type "tuple", data := .seq #[vx, vy, vu] }, x1, y1, u1, rfl, List.mem_cons_of_mem _ (List.mem_map.mpr ⟨(T, j), ?_, ?_⟩)⟩
            · rw [List.mem_zipIdx_iff_getElem?]
              exact e
            · show (T, F j) = _
              have : F j = .frz { cls := .type "tuple", data := .seq #[vx, vy, vu] } (.tup [x, y, u]) := by
                show (match Ts[j]?, xs[j]?, ys[j]?, us[j]? with
                  | some T, some x, some y, some u => HO.frz ((h''.get? T).getD { cls := .none, data := .seq #[] }) (.tup [x, y, u])
                  | _, _, _, _ => HO.lst []) = _
                rw [e, x1, y1, u1]
                show HO.frz ((h''.get? T).getD _) _ = _
                rw [show h''.get? T = _ from g4]
                rfl
              rw [this]
          have big : ∀ p ∈ L, s1.heap.objs.size ≤ p.1 := fun p hp => by
            rcases List.mem_cons.mp hp with rfl | hp
            · exact Nat.le_add_right _ _
            · obtain ⟨⟨T, j⟩, hq, rfl⟩ := List.mem_map.mp hp
              rw [List.mem_zipIdx_iff_getElem?] at hq
              obtain ⟨_, _, _, _, _, _, _, _, _, _, _, _, g0, _⟩ := row j T hq
              exact Nat.le_trans (Nat.le_add_right _ _) g0
          have nd : (L.map (·.1)).Nodup := by
            have e0 : L.map (·.1) = (s1.heap.objs.size + 6) :: Ts := by
              show _ :: (Ts.zipIdx.map fun p => (p.1, F p.2)).map (·.1) = _
              rw [List.map_map]
              congr 1
              exact List.zipIdx_map_fst 0 Ts
            rw [e0]
            refine List.nodup_cons.mpr ⟨fun z => ?_, hnd⟩
            obtain ⟨j, hj⟩ := List.getElem?_of_mem z
            obtain ⟨_, _, _, _, _, _, _, _, _, _, _, _, g0, _⟩ := row j _ hj
            exact absurd g0 (by show ¬ (s1.heap.objs.size + 7 ≤ s1.heap.objs.size + 6); exact Nat.not_succ_le_self _)
          have hlen : (Ts.map V.ref).length ≤ sizeLine := by rw [List.length_map, lx]; exact l0
          refine ⟨.ref (s1.heap.objs.size + 6), updL H1 L, laidL (s := s1) (t' := tk) I1 keep big fun p hp => ?_, rfl, q _ Ts L (fun p hp => I1.hok.fresh (big p hp)) nd List.mem_cons_self lx inL⟩
          rcases List.mem_cons.mp hp with rfl | hp
          · exact ⟨hlen, Ts.map Value.ref, c, refs_vals Ts, hS⟩
          · obtain ⟨⟨T, j⟩, hq, rfl⟩ := List.mem_map.mp hp
            rw [List.mem_zipIdx_iff_getElem?] at hq
            obtain ⟨x, y, u, vx, vy, vu, x1, y1, u1, x2, y2, u2, _, g4⟩ := row j T hq
            have : F j = .frz { cls := .type "tuple", data := .seq #[vx, vy, vu] } (.tup [x, y, u]) := by
              show (match Ts[j]?, xs[j]?, ys[j]?, us[j]? with
                | some T, some x, some y, some u => HO.frz ((h''.get? T).getD { cls := .none, data := .seq #[] }) (.tup [x, y, u])
                | _, _, _, _ => HO.lst []) = _
              have hq' : Ts[j]? = some T := hq
              rw [hq', x1, y1, u1]
              show HO.frz ((h''.get? T).getD _) _ = _
              rw [show h''.get? T = _ from g4]
              rfl
            show ObjOk X.prog X.w (updL H1 L) h'' T (F j)
            rw [this]
            exact ⟨g4, by show 3 ≤ sizeLine; decide, [vx, vy, vu], .cons x2 (.cons y2 (.cons u2 .nil)), ⟨_, g4, rfl, _, rfl⟩⟩
end DL

namespace DL
open PySem PySem.Spec PyProof.Rows L2
theorem updL_same {H : Hp} {l : List (Addr × HO)} (h : ∀ p ∈ l, H p.1 = none) : Same H (updL H l) := fun b u e => by
  rw [updL_out fun p hp z => by rw [← z, h p hp] at e; cases e]
  exact e
theorem dbAll_at {B : Addr → Prop} {H : Hp} : ∀ {vs : List V} {ds : List PyData}, vs.length = ds.length → (∀ (j : Nat) (v : V) (d : PyData), vs[j]? = some v → ds[j]? = some d → Db B H v d) → DbAll B H vs ds
  | [], [], _, _ => .nil
  | [], _ :: _, h, _ => by simp at h
  | _ :: _, [], h, _ => by simp at h
  | v :: vs, d :: ds, h, k => .cons (k 0 v d rfl rfl) (dbAll_at (by simpa using h) fun j v d e1 e2 => k (j + 1) v d (by simpa using e1) (by simpa using e2))
section
variable {X : Cx} {bz : Bool} {Γ : DEnv} {e1 e2 e3 : Expr} {p p2 pos pos2 : Pos} {α β γ : Type} {d1 d2 d3 : PyData}
theorem t_listZip3 (E : Enc α) (F : Enc β) (G : Enc γ) (xs : List α) (ys : List β) (zs : List γ) (g : XG X.calm X.A X.N) (hm : X.mg "list" = none) (hz : X.mg "zip" = none) (ha : Ev false X Γ e1 d1) (hb : Ev false X Γ e2 d2) (hc : Ev false X Γ e3 d3) (h1 : isSeq d1 (xs.map E.f)) (h2 : isSeq d2 (ys.map F.f)) (h3 : isSeq d3 (zs.map G.f)) (hl1 : xs.length = ys.length) (hl2 : xs.length = zs.length)
    (hg : Gl X "list" := by rfl) (hg2 : Gl X "zip" := by rfl)
    (hs : starEach [e1, e2, e3] X.env = (false, eval e1 X.env) :: starEach [e2, e3] X.env := by rfl) (hs2 : starEach [e2, e3] X.env = (false, eval e2 X.env) :: starEach [e3] X.env := by rfl) (hs3 : starEach [e3] X.env = (false, eval e3 X.env) :: starEach [] X.env := by rfl) (hpl : (backTo pos2 (starEach [e2, e3] X.env)).any (·.1) = false := by rfl)
    (hs0 : starEach [.Call (.Name "zip" p2) [e1, e2, e3] [] pos2] X.env = (false, eval (.Call (.Name "zip" p2) [e1, e2, e3] [] pos2) X.env) :: starEach [] X.env := by rfl) (hpl0 : (backTo pos (starEach [] X.env)).any (·.1) = false := by rfl) :
    Ev false X Γ (.Call (.Name "list" p) [.Call (.Name "zip" p2) [e1, e2, e3] [] pos2] [] pos) ((eL (eP3 E F G)).f (xs.zip (ys.zip zs))) :=
  PE_mono (pe_listZip3 g.calm hg hm hg2 hz (pa_cons ha (pa_cons hb (pa_cons hc pa_nil hs3) hs2) hs) hs hpl hs0 hpl0) fun σ H Q ⟨c, R, k⟩ => ⟨c, R, fun v H1 s1 q1 => ⟨c, R.same s1, fun u H2 s2 q2 => ⟨c, (R.same s1).same s2, fun w H3 s3 q3 => by
    obtain ⟨t1, a1, vs, rfl, z1, w1, _, f1⟩ := sq_of ((q1.same s2).same s3) h1 fl_f
    obtain ⟨t2, a2, us, rfl, z2, w2, _, f2⟩ := sq_of (q2.same s3) h2 fl_f
    obtain ⟨t3, a3, ws, rfl, z3, w3, _, f3⟩ := sq_of q3 h3 fl_f
    have n1 : vs.length = xs.length := by rw [f1.length, List.length_map]
    have n2 : us.length = ys.length := by rw [f2.length, List.length_map]
    have n3 : ws.length = zs.length := by rw [f3.length, List.length_map]
    refine ⟨t1, t2, t3, a1, a2, a3, vs, us, ws, rfl, w1, w2, w3, by omega, by omega, fun S Ts L fr nd hS hT row => ?_⟩
    have sm := updL_same fr
    refine k _ _ ((s1.trans (s2.trans s3)).trans sm) ?_
    refine .lst (fun z => ?_) ⟨by rw [List.length_map, hT]; exact z1, updL_in nd hS⟩ (dbAll_at (by simp; omega) fun j v d e1 e2 => ?_)
    · obtain ⟨o, eo, _⟩ := ((R.same s1).same (s2.trans s3)).muta S z
      rw [fr _ hS] at eo
      cases eo
    · rw [List.getElem?_map] at e1
      cases eT : Ts[j]? with
      | none => rw [eT] at e1; cases e1
      | some T =>
        rw [eT] at e1
        cases e1
        obtain ⟨x, y, u, o, x1, y1, u1, od, hL⟩ := row j T eT
        obtain ⟨dx, hx, bx⟩ := f1.getV x1
        obtain ⟨dy, hy, by'⟩ := f2.getV y1
        obtain ⟨du, hu, bu⟩ := f3.getV u1
        have ed : d = .tuple [dx, dy, du] := by
          rw [List.getElem?_map] at e2 hx hy hu
          cases q1 : xs[j]? with
          | none => rw [q1] at hx; cases hx
          | some a =>
            cases q2 : ys[j]? with
            | none => rw [q2] at hy; cases hy
            | some b =>
              cases q3 : zs[j]? with
              | none => rw [q3] at hu; cases hu
              | some c' =>
                rw [q1] at hx
                rw [q2] at hy
                rw [q3] at hu
                have e4 : (xs.zip (ys.zip zs))[j]? = some (a, b, c') := List.getElem?_zip_eq_some.mpr ⟨q1, List.getElem?_zip_eq_some.mpr ⟨q2, q3⟩⟩
                rw [e4] at e2
                cases hx
                cases hy
                cases hu
                cases e2
                rfl
        rw [ed]
        exact .tup ⟨by show 3 ≤ sizeLine; decide, o, od, updL_in nd hL⟩ (.cons (bx.same sm) (.cons (by'.same sm) (.cons (bu.same sm) .nil)))⟩⟩⟩
end
end DL

namespace DL
open PySem PySem.Spec PyProof.Rows L2
section
variable {X : Cx} {bz : Bool} {Γ : DEnv} {N N1 : DEnv → Prop} {R : PyData → DEnv → Prop} {s : Stmt} {ss body els : List Stmt} {e e2 tg iter : Expr} {d : PyData} {pos : Pos}
/-- a loop over xs: the state st goes on by step, J is what is not read again -/
theorem st_fold {α ι J : Type} {gt : TG} (g : XG X.calm X.A X.N) (vs : List Nat) (xs : List α) (f : α → PyData) (G : J → ι → DEnv) (step : ι → α → ι) (s0 : ι) (j0 : J) (hi : Ei false X tg Γ iter (xs.map f)) (hg : PG X tg gt) (h0 : Γ = G j0 s0)
    (hb : ∀ (pre : List α) (x : α) (post : List α) (j : J) (u : ι), xs = pre ++ x :: post → u = pre.foldl step s0 → ∃ Γ2, Bd vs gt (G j u) (f x) Γ2 ∧ St X Γ2 body (fun Γ' => ∃ j', Γ' = G j' (step u x)) R)
    (hn : ∀ (j : J) (u : ι), u = xs.foldl step s0 → St X (G j u) ss N R)
    (hp : PassesOwn (model X.prog X.w) X.A X.env X.xe := by exact PassesOwn.never) (hs : ∀ x, foldedSetIterable iter X.env x = pure x := by intro _; rfl) : St X Γ (.For tg iter body [] pos :: ss) N R :=
  st_cons (N1 := fun Γ1 => ∃ j, Γ1 = G j (xs.foldl step s0)) (s_for g vs xs f (fun i Γ1 => ∃ j, Γ1 = G j ((xs.take i).foldl step s0)) hi hg ⟨j0, h0⟩ (fun i x Γ1 hx ⟨j, e⟩ => by
    subst e
    have hlt : i < xs.length := (List.getElem?_eq_some_iff.mp hx).1
    have hxe : xs[i] = x := (List.getElem?_eq_some_iff.mp hx).2
    obtain ⟨Γ2, h1, h2⟩ := hb (xs.take i) x (xs.drop (i + 1)) j _ (by rw [← hxe, ← List.drop_eq_getElem_cons hlt]; exact (List.take_append_drop i xs).symm) rfl
    refine ⟨Γ2, h1, ?_⟩
    have e2 : (xs.take (i + 1)).foldl step s0 = step ((xs.take i).foldl step s0) x := by rw [List.take_add_one, hx]; simp
    simp only [e2]
    exact h2) (fun Γ1 ⟨j, e⟩ => ⟨j, by rw [e, List.take_length]⟩) hp hs) fun Γ1 ⟨j, e⟩ => by rw [e]; exact hn j _ rfl
/-- a loop that hands back at the first x with q x -/
theorem st_find {α J : Type} {gt : TG} (g : XG X.calm X.A X.N) (vs : List Nat) (xs : List α) (f : α → PyData) (G : J → DEnv) (q : α → Bool) (j0 : J) (hi : Ei false X tg Γ iter (xs.map f)) (hg : PG X tg gt) (h0 : Γ = G j0)
    (hb : ∀ (pre : List α) (x : α) (post : List α) (j : J), xs = pre ++ x :: post → (∀ y ∈ pre, q y = false) → ∃ Γ2, Bd vs gt (G j) (f x) Γ2 ∧ St X Γ2 body (fun Γ' => q x = false ∧ ∃ j', Γ' = G j') R)
    (hn : ∀ (j : J), (∀ y ∈ xs, q y = false) → St X (G j) ss N R)
    (hp : PassesOwn (model X.prog X.w) X.A X.env X.xe := by exact PassesOwn.never) (hs : ∀ x, foldedSetIterable iter X.env x = pure x := by intro _; rfl) : St X Γ (.For tg iter body [] pos :: ss) N R :=
  st_cons (N1 := fun Γ1 => (∀ y ∈ xs, q y = false) ∧ ∃ j, Γ1 = G j) (s_for g vs xs f (fun i Γ1 => (∀ y ∈ xs.take i, q y = false) ∧ ∃ j, Γ1 = G j) hi hg ⟨by simp, j0, h0⟩ (fun i x Γ1 hx ⟨hq, j, e⟩ => by
    subst e
    have hlt : i < xs.length := (List.getElem?_eq_some_iff.mp hx).1
    have hxe : xs[i] = x := (List.getElem?_eq_some_iff.mp hx).2
    obtain ⟨Γ2, h1, h2⟩ := hb (xs.take i) x (xs.drop (i + 1)) j (by rw [← hxe, ← List.drop_eq_getElem_cons hlt]; exact (List.take_append_drop i xs).symm) hq
    refine ⟨Γ2, h1, PSs_mono h2 fun D σ H ⟨c, E, k, r⟩ => ⟨c, E, fun c' σ' H' Γ' l ⟨n1, n2⟩ E' => k c' σ' H' Γ' l ⟨fun y hy => ?_, n2⟩ E', r⟩⟩
    rw [List.take_add_one, hx] at hy
    rcases List.mem_append.mp hy with hy | hy
    · exact hq y hy
    · simp at hy; rw [hy]; exact n1) (fun Γ1 ⟨a, b⟩ => ⟨by rw [List.take_length] at a; exact a, b⟩) hp hs) fun Γ1 ⟨a, j, e⟩ => by rw [e]; exact hn j a
/-- a loop that hands back where bf says so -/
theorem st_some {α β J : Type} {gt : TG} (g : XG X.calm X.A X.N) (vs : List Nat) (xs : List α) (f : α → PyData) (G : J → DEnv) (bf : α → Option β) (j0 : J) (hi : Ei false X tg Γ iter (xs.map f)) (hg : PG X tg gt) (h0 : Γ = G j0)
    (hb : ∀ (pre : List α) (x : α) (post : List α) (j : J), xs = pre ++ x :: post → (∀ y ∈ pre, bf y = none) → ∃ Γ2, Bd vs gt (G j) (f x) Γ2 ∧ St X Γ2 body (fun Γ' => bf x = none ∧ ∃ j', Γ' = G j') R)
    (hn : ∀ (j : J), (∀ y ∈ xs, bf y = none) → St X (G j) ss N R)
    (hp : PassesOwn (model X.prog X.w) X.A X.env X.xe := by exact PassesOwn.never) (hs : ∀ x, foldedSetIterable iter X.env x = pure x := by intro _; rfl) : St X Γ (.For tg iter body [] pos :: ss) N R :=
  st_find g vs xs f G (fun x => (bf x).isSome) j0 hi hg h0 (fun pre x post j e h => by
    obtain ⟨Γ2, h1, h2⟩ := hb pre x post j e (fun y hy => by simpa using h y hy)
    refine ⟨Γ2, h1, PSs_mono h2 fun D σ H ⟨c, E, k, r⟩ => ⟨c, E, fun c' σ' H' Γ' l ⟨n1, n2⟩ E' => k c' σ' H' Γ' l ⟨by rw [n1]; rfl, n2⟩ E', r⟩⟩) (fun j h => hn j fun y hy => by simpa using h y hy) hp hs
theorem find_at {α β : Type} {xs pre post : List α} {x : α} {bf : α → Option β} {v : β} (e : xs = pre ++ x :: post) (h : ∀ y ∈ pre, bf y = none) (hv : bf x = some v) : xs.findSome? bf = some v := by
  subst e
  rw [List.findSome?_append, List.findSome?_eq_none_iff.mpr h, List.findSome?_cons, hv]
  rfl
theorem find_no {α β : Type} {xs : List α} {bf : α → Option β} (h : ∀ y ∈ xs, bf y = none) : xs.findSome? bf = none := List.findSome?_eq_none_iff.mpr h
/-- an if after which it goes on with what the branches left -/
theorem st_join {ι J : Type} {t : Expr} {b : Bool} (u v : ι) (G : J → ι → DEnv) (ht : Tv X Γ t b) (ha : b = true → St X Γ body (fun Γ' => ∃ j, Γ' = G j u) R) (hb : b = false → St X Γ els (fun Γ' => ∃ j, Γ' = G j v) R)
    (hs : ∀ (j : J) (w : ι), w = (if b = true then u else v) → St X (G j w) ss N R) : St X Γ (.If t body els pos :: ss) N R :=
  st_if (N1 := fun Γ' => ∃ j, Γ' = G j (if b = true then u else v)) ht (fun e => by simp only [if_pos e]; exact ha e) (fun e => by simp only [e, Bool.false_eq_true, if_false]; exact hb e) fun Γ1 ⟨j, e⟩ => by rw [e]; exact hs j _ rfl
theorem st_letS {α : Type} {i : Nat} (x : α) (f : α → Slot) (h : S1 X Γ s (fun G => G = Γ.set i (f x)) R) (hs : ∀ v, v = x → St X (Γ.set i (f v)) ss N R) : St X Γ (s :: ss) N R := st_to h (hs x rfl)
theorem S1.to {G1 G2 : DEnv} (h : S1 X Γ s (fun G => G = G1) R) (q : G1 = G2) : S1 X Γ s (fun G => G = G2) R := q ▸ h
variable {α : Type}
/-- own lists, typed -/
theorem o_lst (E : Enc α) (xs : List α) {es : List Expr} (h : Av false X Γ es (xs.map E.f)) (hl : xs.length ≤ 1000000) : Nw X Γ (.List es pos) ((eL E).f xs) := nw_lst h (by simpa using hl)
theorem o_list (E : Enc α) (xs : List α) {p : Pos} (hm : X.mg "list" = none) (ha : Ev false X Γ e d) (hs : isSeq d (xs.map E.f)) (hg : Gl X "list" := by rfl) (he : starEach [e] X.env = (false, eval e X.env) :: starEach [] X.env := by rfl) (hpl : (backTo pos (starEach [] X.env)).any (·.1) = false := by rfl) : Nw X Γ (.Call (.Name "list" p) [e] [] pos) ((eL E).f xs) :=
  nw_list rfl hm ha hs hg (by decide +kernel) (by decide) (by decide) he hpl
theorem o_rep (E : Enc α) (xs : List α) {a b : Expr} {i : Int} (ha : Ev false X Γ a ((eL E).f xs)) (hb : Ev false X Γ b (.int i)) (hi : -1000000 ≤ i ∧ i ≤ 1000000) (hl : xs.length * i.toNat ≤ 1000000) : Nw X Γ (.BinOp a .Mult b pos) ((eL E).f (List.replicate i.toNat xs).flatten) :=
  (nw_rep ha hb hi (by simpa using hl)).cast (by show PyData.list _ = PyData.list _; rw [List.map_flatten, List.map_replicate])
theorem o_append (E : Enc α) (xs : List α) (y : α) {i : Nat} {x : Str} {p1 apos cpos : Pos} (he : Ev false X Γ e (E.f y)) (hl : xs.length < 1000000) (h : Γ[i]? = some (.own ((eL E).f xs)) := by rfl)
    (hN : X.N[i]? = some x := by rfl) (hv : Vis X.env.scope x := by first | exact Or.inl rfl | exact Or.inr (Or.inl rfl) | exact Or.inr (Or.inr rfl)) (hd : (x == ("__debug__" : Str)) = false := by decide)
    (hcd : (x == ("__classdict__" : Str)) = false := by decide)
    (hbase : attributeBase (.Name x p1) "append" X.env (eval (.Name x p1) X.env) = eval (.Name x p1) X.env := by rfl)
    (hfew : ((backTo cpos (starEach [e] X.env)).all (fun x => !x.1) && (backToKw cpos (keywordEach [] X.env)).all (fun x => x.1.isSome)
      && decide ([e].length + ([] : List Keyword).length + (if ([] : List Keyword).isEmpty then 0 else 1) < 30)) = true := by rfl)
    (hline : (apos.endLine == cpos.line) = true := by rfl) (hs : starEach [e] X.env = (false, eval e X.env) :: starEach [] X.env := by rfl) (hplain : (backTo cpos (starEach [] X.env)).any (·.1) = false := by rfl)
    (hsw : swapsWith (.Call (.Attribute (.Name x p1) "append" apos) [e] [] cpos) none pos.line X.env = pure false := by rfl) :
    S1 X Γ (.Expr (.Call (.Attribute (.Name x p1) "append" apos) [e] [] cpos) pos) (fun G => G = Γ.set i (.own ((eL E).f (xs ++ [y])))) R :=
  (s_append (ds := xs.map E.f) he (by simpa using hl) h hN hv hd hcd hbase hfew hline hs hplain hsw).to (by rw [show (eL E).f (xs ++ [y]) = PyData.list (xs.map E.f ++ [E.f y]) by show PyData.list _ = _; rw [List.map_append]; rfl])
theorem o_extend (E : Enc α) (xs ys : List α) {i : Nat} {x : Str} {p1 apos cpos : Pos} (he : Ev false X Γ e ((eL E).f ys)) (hl : xs.length + ys.length ≤ 1000000) (h : Γ[i]? = some (.own ((eL E).f xs)) := by rfl)
    (hN : X.N[i]? = some x := by rfl) (hv : Vis X.env.scope x := by first | exact Or.inl rfl | exact Or.inr (Or.inl rfl) | exact Or.inr (Or.inr rfl)) (hd : (x == ("__debug__" : Str)) = false := by decide)
    (hcd : (x == ("__classdict__" : Str)) = false := by decide)
    (hbase : attributeBase (.Name x p1) "extend" X.env (eval (.Name x p1) X.env) = eval (.Name x p1) X.env := by rfl)
    (hfew : ((backTo cpos (starEach [e] X.env)).all (fun x => !x.1) && (backToKw cpos (keywordEach [] X.env)).all (fun x => x.1.isSome)
      && decide ([e].length + ([] : List Keyword).length + (if ([] : List Keyword).isEmpty then 0 else 1) < 30)) = true := by rfl)
    (hline : (apos.endLine == cpos.line) = true := by rfl) (hs : starEach [e] X.env = (false, eval e X.env) :: starEach [] X.env := by rfl) (hplain : (backTo cpos (starEach [] X.env)).any (·.1) = false := by rfl)
    (hsw : swapsWith (.Call (.Attribute (.Name x p1) "extend" apos) [e] [] cpos) none pos.line X.env = pure false := by rfl) :
    S1 X Γ (.Expr (.Call (.Attribute (.Name x p1) "extend" apos) [e] [] cpos) pos) (fun G => G = Γ.set i (.own ((eL E).f (xs ++ ys)))) R :=
  (s_extend (ds := xs.map E.f) (es := ys.map E.f) he (by simpa using hl) h hN hv hd hcd hbase hfew hline hs hplain hsw).to (by rw [show (eL E).f (xs ++ ys) = PyData.list (xs.map E.f ++ ys.map E.f) by show PyData.list _ = _; rw [List.map_append]])
end
end DL

namespace DL
open PySem PySem.Spec PyProof.Rows L2
/-! plain facts -/
section
variable {α : Type}
def openStep (p : List α → Bool) (l : List (List α)) (x : α) : List (List α) := l ++ (l.map fun o => o ++ [x]).filter p
theorem openStep_bnd (p : List α → Bool) : ∀ (n : Nat) (xs : List α), xs.length ≤ n → (xs.foldl (openStep p) [[]]).length ≤ 2 ^ xs.length ∧ (∀ o ∈ xs.foldl (openStep p) [[]], o.length ≤ xs.length) ∧ [] ∈ xs.foldl (openStep p) [[]]
  | n, xs, hn => by
    rcases List.eq_nil_or_concat xs with rfl | ⟨ys, y, rfl⟩
    · simp
    · cases n with
      | zero => simp at hn
      | succ n =>
        obtain ⟨h1, h2, h3⟩ := openStep_bnd p n ys (by simpa using hn)
        rw [List.concat_eq_append, List.foldl_append]
        generalize ys.foldl (openStep p) [[]] = l at h1 h2 h3 ⊢
        refine ⟨?_, fun o ho => ?_, ?_⟩
        · simp only [List.foldl_cons, List.foldl_nil, openStep, List.length_append, List.length_cons, List.length_nil]
          have := List.length_filter_le p (l.map fun o => o ++ [y])
          rw [List.length_map] at this
          rw [Nat.pow_succ]
          omega
        · simp only [List.foldl_cons, List.foldl_nil, openStep, List.mem_append, List.mem_filter, List.mem_map] at ho
          simp only [List.length_append, List.length_cons, List.length_nil]
          rcases ho with ho | ⟨⟨q, hq, rfl⟩, _⟩
          · have := h2 o ho; omega
          · have := h2 q hq
            simp only [List.length_append, List.length_cons, List.length_nil]
            omega
        · simp only [List.foldl_cons, List.foldl_nil, openStep, List.mem_append]
          exact .inl h3
variable {f : List (List α)} {p : List α → Bool} {pre post xs : List α} {x : α}
theorem open_bnd (h : f = xs.foldl (fun l x => l ++ (l.map fun o => o ++ [x]).filter p) [[]]) (hl : xs.length ≤ 12) : ∀ o ∈ f, o.length ≤ 12 := fun o ho => by
  subst h
  have := (openStep_bnd p _ xs (Nat.le_refl _)).2.1 o ho
  omega
theorem open_nil (h : f = xs.foldl (fun l x => l ++ (l.map fun o => o ++ [x]).filter p) [[]]) : [] ∈ f := by
  subst h
  exact (openStep_bnd p _ xs (Nat.le_refl _)).2.2
theorem open_cnt (h : f = xs.foldl (fun l x => l ++ (l.map fun o => o ++ [x]).filter p) [[]]) (hl : xs.length ≤ 12) : f.length ≤ 4096 := by
  subst h
  have h1 := (openStep_bnd p _ xs (Nat.le_refl _)).1
  have h2 : 2 ^ xs.length ≤ 2 ^ 12 := Nat.pow_le_pow_right (by decide) hl
  exact Nat.le_trans h1 (Nat.le_trans h2 (by decide))
theorem open_cat (h : f = pre.foldl (fun l x => l ++ (l.map fun o => o ++ [x]).filter p) [[]]) (hx : xs = pre ++ x :: post) (hl : xs.length ≤ 12) : f.length + ((f.map fun o => o ++ [x]).filter p).length ≤ 1000000 := by
  have h1 := open_cnt h (by subst hx; simp only [List.length_append, List.length_cons] at hl; omega)
  have h2 := List.length_filter_le p (f.map fun o => o ++ [x])
  rw [List.length_map] at h2
  omega
theorem open_len (h : f = pre.foldl (fun l x => l ++ (l.map fun o => o ++ [x]).filter p) [[]]) (hx : xs = pre ++ x :: post) (hl : xs.length ≤ 12) {o : List α} (ho : o ∈ f) : (o ++ [x]).length ≤ 1000000 := by
  have := open_bnd h (by subst hx; simp only [List.length_append, List.length_cons] at hl; omega) o ho
  simp only [List.length_append, List.length_cons, List.length_nil]
  omega
end
/-! all sets of some things -/
section
variable {α : Type}
def setsStep (l : List (List α)) (x : α) : List (List α) := l ++ l.map fun o => o ++ [x]
theorem sets_bnd0 : ∀ (n : Nat) (xs : List α), xs.length ≤ n → (xs.foldl setsStep [[]]).length ≤ 2 ^ xs.length ∧ ∀ o ∈ xs.foldl setsStep [[]], o.length ≤ xs.length
  | n, xs, hn => by
    rcases List.eq_nil_or_concat xs with rfl | ⟨ys, y, rfl⟩
    · simp
    · cases n with
      | zero => simp at hn
      | succ n =>
        obtain ⟨h1, h2⟩ := sets_bnd0 n ys (by simpa using hn)
        rw [List.concat_eq_append, List.foldl_append]
        generalize ys.foldl setsStep [[]] = l at h1 h2 ⊢
        refine ⟨?_, fun o ho => ?_⟩
        · simp only [List.foldl_cons, List.foldl_nil, setsStep, List.length_append, List.length_cons, List.length_nil, List.length_map]
          rw [Nat.pow_succ]
          omega
        · simp only [List.foldl_cons, List.foldl_nil, setsStep, List.mem_append, List.mem_map] at ho
          simp only [List.length_append, List.length_cons, List.length_nil]
          rcases ho with ho | ⟨q, hq, rfl⟩
          · have := h2 o ho; omega
          · have := h2 q hq
            simp only [List.length_append, List.length_cons, List.length_nil]
            omega
variable {f : List (List α)} {pre post xs : List α} {x : α}
theorem sets_bnd (h : f = xs.foldl (fun l x => l ++ l.map fun o => o ++ [x]) [[]]) (hl : xs.length ≤ 12) : f.length ≤ 4096 ∧ ∀ o ∈ f, o.length ≤ 12 := by
  subst h
  obtain ⟨h1, h3⟩ := sets_bnd0 _ xs (Nat.le_refl _)
  have h2 : 2 ^ xs.length ≤ 2 ^ 12 := Nat.pow_le_pow_right (by decide) hl
  exact ⟨Nat.le_trans h1 (Nat.le_trans h2 (by decide)), fun o ho => Nat.le_trans (h3 o ho) hl⟩
theorem sets_cat (h : f = pre.foldl (fun l x => l ++ l.map fun o => o ++ [x]) [[]]) (hx : xs = pre ++ x :: post) (hl : xs.length ≤ 12) : f.length + (f.map fun o => o ++ [x]).length ≤ 1000000 := by
  have h1 := (sets_bnd h (by subst hx; simp only [List.length_append, List.length_cons] at hl; omega)).1
  rw [List.length_map]
  omega
theorem sets_len (h : f = pre.foldl (fun l x => l ++ l.map fun o => o ++ [x]) [[]]) (hx : xs = pre ++ x :: post) (hl : xs.length ≤ 12) {o : List α} (ho : o ∈ f) : o.length + [x].length ≤ 1000000 := by
  have := (sets_bnd h (by subst hx; simp only [List.length_append, List.length_cons] at hl; omega)).2 o ho
  simp only [List.length_cons, List.length_nil]
  omega
theorem cutT_le (xs : List α) (l u : Option Int) : (cutT xs l u).length ≤ xs.length := by
  unfold cutT
  first | exact Nat.le_trans (List.length_take_le _ _) (by rw [List.length_drop]; omega) | (simp; omega)
theorem cut_two {l u l2 u2 : Option Int} (h : xs.length ≤ 12) : (cutT xs l u).length + (cutT xs l2 u2).length ≤ 1000000 := by
  have h1 := cutT_le xs l u
  have h2 := cutT_le xs l2 u2
  omega
end
theorem cmul_l {i j : Int} (h : -1000 ≤ i ∧ i ≤ 1000) : CMul i j := .inl (by omega)
theorem cmul_cnt {β : Type} {gs : List β} {q : β → Bool} {r : β → Int} (h : gs.length ≤ 12) {i : Int} : CMul i (max 1 (((gs.filter q).map r).length : Int)) := by
  have := List.length_filter_le q gs
  rw [List.length_map]
  exact .inr (by omega)
end DL

namespace DL
open PySem PySem.Spec PyProof.Rows L2
/-! draws, typed -/
/-- draws at most c; holds by E some v with Q v -/
abbrev Dj {α : Type} (i c : Nat) (X : Cx) (Γ : DEnv) (e : Expr) (E : Enc α) (Q : α → Prop) : Prop := Ej i c X Γ e (fun d => ∃ v, Q v ∧ d = E.f v)
section
variable {X : Cx} {Γ : DEnv} {a b e e2 t elt tg iter : Expr} {es : List Expr} {pos p p1 p2 p3 : Pos} {i c c1 c2 k : Nat} {d : PyData} {α β : Type} {E : Enc α} {F : Enc β} {v : α} {Q Q1 : α → Prop} {u : Str}
theorem d_pure (h : ∀ m, Ev false X (setU Γ i m) e (E.f v)) : Dj i 0 X Γ e E (fun x => x = v) := ej_mono (ej_pure h) (Nat.le_refl _) fun d e => ⟨v, rfl, e⟩
theorem d_mono (h : Dj i c1 X Γ e E Q1) (hc : c1 ≤ c) (hq : ∀ v, Q1 v → Q v) : Dj i c X Γ e E Q := ej_mono h hc fun d ⟨v, q, e⟩ => ⟨v, hq v q, e⟩
theorem d_take {n : Int} (F : FnU X.prog X.w X.K X.mg X.base "_law_take" k ["urn", "below"] 1 P_law_take) (hr : Room k X.A) (hb : ∀ m, Ev false X (setU Γ i m) e2 (.int n)) (h0 : 0 < n ∧ n < 1073741824) (hN : X.N[i]? = some u := by rfl)
    (hv : Vis X.env.scope u := by first | exact Or.inl rfl | exact Or.inr (Or.inl rfl) | exact Or.inr (Or.inr rfl)) (hd : (u == ("__debug__" : Str)) = false := by decide) (hcd : (u == ("__classdict__" : Str)) = false := by decide) (hg : Gl X "_law_take" := by rfl)
    (hs2 : starEach [e2] X.env = (false, eval e2 X.env) :: starEach [] X.env := by rfl)
    (he : starEach [.Name u p2, e2] X.env = (false, eval (.Name u p2) X.env) :: starEach [e2] X.env := by rfl) (hpl : (backTo pos (starEach [e2] X.env)).any (·.1) = false := by rfl) : Dj i 1 X Γ (.Call (.Name "_law_take" p) [.Name u p2, e2] [] pos) eI (fun r => 0 ≤ r ∧ r < n) :=
  ej_mono (ej_fnU (P' := fun d => ∃ r : Int, (0 ≤ r ∧ r < n) ∧ d = .int r) F hr (aj_cons (ej_pure hb) aj_nil hs2) (fun ds ⟨d, ds', h1, h2, h3⟩ => by subst h3; subst h2; subst h1; exact ⟨.int 0, n, 0, rfl, h0.1, h0.2, by omega, h0.1, rfl⟩)
    (fun ds d ⟨d', ds', h1, h2, h3⟩ ⟨n', r, e1, _, _, h4, h5, e2⟩ => by subst h3; subst h2; subst h1; cases e1; exact ⟨r, ⟨h4, h5⟩, e2⟩) hN hv hd hcd hg (by decide) he hpl) (by omega) fun d h => h
theorem d_add {Q1 Q2 : Int → Prop} (ha : Dj i c1 X Γ a eI Q1) (hb : Dj i c2 X Γ b eI Q2) : Dj i (c1 + c2) X Γ (.BinOp a .Add b pos) eI (fun z => ∃ x y, Q1 x ∧ Q2 y ∧ z = x + y) := ij_add ha hb fun x y h1 h2 => ⟨x, y, h1, h2, rfl⟩
theorem d_sub {Q1 Q2 : Int → Prop} (ha : Dj i c1 X Γ a eI Q1) (hb : Dj i c2 X Γ b eI Q2) : Dj i (c1 + c2) X Γ (.BinOp a .Sub b pos) eI (fun z => ∃ x y, Q1 x ∧ Q2 y ∧ z = x - y) := ij_sub ha hb fun x y h1 h2 => ⟨x, y, h1, h2, rfl⟩
/-- a drawn test: it may be either -/
theorem dt_eq {Q1 Q2 : Int → Prop} (ha : Dj i c1 X Γ a eI Q1) (hb : Dj i c2 X Γ b eI Q2) (hm : behindInMarks .Eq b = false := by first | exact nobehind _ (by decide) (by decide) | rfl) : Tj i (c1 + c2) X Γ (.Compare a [.Eq] [b] pos) (fun _ => True) := tj_eq ha hb _ (fun _ _ _ _ => trivial) hm
theorem dt_gt {Q1 Q2 : Int → Prop} (ha : Dj i c1 X Γ a eI Q1) (hb : Dj i c2 X Γ b eI Q2) (hm : behindInMarks .Gt b = false := by first | exact nobehind _ (by decide) (by decide) | rfl) : Tj i (c1 + c2) X Γ (.Compare a [.Gt] [b] pos) (fun _ => True) := tj_gt ha hb _ (fun _ _ _ _ => trivial) hm
theorem d_if {Qa Qb : α → Prop} (ht : Tj i c1 X Γ t (fun _ => True)) (ha : Dj i c2 X Γ a E Qa) (hb : Dj i c2 X Γ b E Qb) : Dj i (c1 + c2) X Γ (.IfExp t a b pos) E (fun v => Qa v ∨ Qb v) :=
  ej_if ht (fun _ => ej_mono ha (Nat.le_refl _) fun d ⟨v, q, e⟩ => ⟨v, .inl q, e⟩) (fun _ => ej_mono hb (Nat.le_refl _) fun d ⟨v, q, e⟩ => ⟨v, .inr q, e⟩)
/-- the same in lists or in tuples -/
theorem d_soft {G : Bool → Enc α} {x y : Bool} (ht : Tj i c1 X Γ t (fun _ => True)) (ha : ∀ m, Ev false X (setU Γ i m) a ((G x).f v)) (hb : ∀ m, Ev false X (setU Γ i m) b ((G y).f v)) : Ej i c1 X Γ (.IfExp t a b pos) (fun d => ∃ z : Bool, d = (G z).f v) :=
  ej_if (c2 := 0) ht (fun _ => ej_mono (ej_pure ha) (Nat.le_refl _) fun d e => ⟨x, e⟩) (fun _ => ej_mono (ej_pure hb) (Nat.le_refl _) fun d e => ⟨y, e⟩)
theorem d_cutT {xs : List α} {Qn : Int → Prop} {hi : Expr} {p2} (ha : ∀ m, Ev false X (setU Γ i m) a ((eT E).f xs)) (hb : Dj i c X Γ hi eI Qn) : Dj i c X Γ (.Subscript a (.Slice none (some hi) none p2) pos) (eT E) (fun v => ∃ n, Qn n ∧ v = cutT xs none (some n)) :=
  ej_mono (ej_cut (P := fun d => ∃ v, (∃ n, Qn n ∧ v = cutT xs none (some n)) ∧ d = (eT E).f v) (ej_pure ha) hb fun d n e q => ⟨xs.map E.f, .inr e, _, ⟨n, q, rfl⟩, by subst e; show PyData.tuple _ = _; rw [cut_map]; rfl⟩) (by omega) fun d h => h
theorem d_tuple {Q : List α → Prop} (hm : X.mg "tuple" = none) (ha : Dj i c X Γ e (eL E) Q) (hg : Gl X "tuple" := by rfl) (he : starEach [e] X.env = (false, eval e X.env) :: starEach [] X.env := by rfl) (hpl : (backTo pos (starEach [] X.env)).any (·.1) = false := by rfl) : Dj i c X Γ (.Call (.Name "tuple" p) [e] [] pos) (eT E) Q :=
  ej_callT1 cr_tuple hm ha (fun d ⟨v, q, e⟩ => ⟨(eT E).f v, ⟨d, _, rfl, .inl e, rfl⟩, v, q, rfl⟩) hg (by decide +kernel) (by decide) (by decide) he hpl
/-- [elt for x in xs] with draws in elt -/
theorem d_lc {own : List (Str × Nat)} {scope : Scope} {gt : TG} (ei : Enc α) (eo : Enc β) (xs : List α) (Qx : α → β → Prop) (Γb : α → DEnv) (g : XG X.calm X.A X.N) (hi : ∀ m, Ei false X tg (setU Γ i m) iter (xs.map ei.f)) (ok : BlkOk X.N X.env.scope scope own)
    (hg : ∀ (s : Shared) (H : Hp) (C : Addr) (cl : List (Str × Addr)) (fp : List Addr), PG (X.blk s H scope (compEnvC scope cl C X.env) fp) tg gt)
    (hbd : ∀ m, ∀ x ∈ xs, Bd (own.map (·.2)) gt (wipG (setU Γ i m) (own.map (·.2))) (ei.f x) (setU (Γb x) i m)) (ob : ∀ x ∈ xs, OneU (Γb x) i)
    (he : ∀ (s : Shared) (H : Hp) (C : Addr) (cl : List (Str × Addr)) (fp : List Addr), ∀ x ∈ xs, Dj i c2 (X.blk s H scope (compEnvC scope cl C X.env) fp) (Γb x) elt eo (Qx x)) (n : Nat) (hn : xs.length * c2 ≤ n)
    (hs : ∀ x, foldedSetIterable iter X.env x = pure x := by intro _; rfl) :
    Dj i n X Γ (.ListComp elt [⟨tg, iter, [], 0⟩] scope pos) (eL eo) (fun zs => zs.length = xs.length ∧ ∀ (k : Nat) (x : α) (z : β), xs[k]? = some x → zs[k]? = some z → Qx x z) :=
  ej_mono (ej_lc (c1 := 0) (c2 := c2) own g xs ei.f Γb (fun _ b => b = true) (fun x d => ∃ v, Qx x v ∧ d = eo.f v) (fun k ds => ∃ zs : List β, ds = zs.map eo.f ∧ zs.length = k ∧ ∀ (j : Nat) (x : α) (z : β), xs[j]? = some x → zs[j]? = some z → Qx x z) hi ok hg hbd ob
    (fun s H C cl fp x hx => tsj_nil) (fun s H C cl fp x hx _ => he s H C cl fp x hx) ⟨[], rfl, rfl, fun _ _ _ _ h => by simp at h⟩ (fun _ _ _ _ _ h => nomatch h)
    (fun k x acc d hx ⟨zs, e1, e2, e3⟩ _ ⟨v, q, e⟩ => ⟨zs ++ [v], by subst e1; subst e; rw [List.map_append]; rfl, by simp [e2], fun j y z hy hz => by
      by_cases hj : j < zs.length
      · rw [List.getElem?_append_left hj] at hz
        exact e3 j y z hy hz
      · rw [List.getElem?_append_right (by omega)] at hz
        have : j = k := by
          have h1 := (List.getElem?_eq_some_iff.mp hz).1
          simp at h1
          omega
        subst this
        rw [hx] at hy
        cases hy
        rw [e2, Nat.sub_self] at hz
        cases hz
        exact q⟩) n (by rw [Nat.zero_add]; exact hn) hs) (Nat.le_refl _) fun d ⟨ds, e, zs, e1, e2, e3⟩ => ⟨zs, ⟨e2, e3⟩, by subst e; subst e1; rfl⟩
/-- [x for x in xs if a draw says so] -/
theorem d_fil {own : List (Str × Nat)} {scope : Scope} {gt : TG} {ifs : List Expr} (ei : Enc α) (xs : List α) (Γb : α → DEnv) (g : XG X.calm X.A X.N) (hi : ∀ m, Ei false X tg (setU Γ i m) iter (xs.map ei.f)) (ok : BlkOk X.N X.env.scope scope own)
    (hg : ∀ (s : Shared) (H : Hp) (C : Addr) (cl : List (Str × Addr)) (fp : List Addr), PG (X.blk s H scope (compEnvC scope cl C X.env) fp) tg gt)
    (hbd : ∀ m, ∀ x ∈ xs, Bd (own.map (·.2)) gt (wipG (setU Γ i m) (own.map (·.2))) (ei.f x) (setU (Γb x) i m)) (ob : ∀ x ∈ xs, OneU (Γb x) i)
    (ht : ∀ (s : Shared) (H : Hp) (C : Addr) (cl : List (Str × Addr)) (fp : List Addr), ∀ x ∈ xs, Tsj i c1 (X.blk s H scope (compEnvC scope cl C X.env) fp) (Γb x) ifs (fun _ => True))
    (he : ∀ (s : Shared) (H : Hp) (C : Addr) (cl : List (Str × Addr)) (fp : List Addr), ∀ x ∈ xs, ∀ m, Ev false (X.blk s H scope (compEnvC scope cl C X.env) fp) (setU (Γb x) i m) elt (ei.f x)) (n : Nat) (hn : xs.length * c1 ≤ n)
    (hs : ∀ x, foldedSetIterable iter X.env x = pure x := by intro _; rfl) :
    Dj i n X Γ (.ListComp elt [⟨tg, iter, ifs, 0⟩] scope pos) (eL ei) (fun zs => zs.Sublist xs) :=
  ej_mono (ej_lc (c1 := c1) (c2 := 0) own g xs ei.f Γb (fun _ _ => True) (fun x d => d = ei.f x) (fun k ds => ∃ zs : List α, ds = zs.map ei.f ∧ zs.Sublist (xs.take k)) hi ok hg hbd ob
    ht (fun s H C cl fp x hx _ => ej_pure (he s H C cl fp x hx)) ⟨[], rfl, List.nil_sublist _⟩
    (fun k x acc hx ⟨zs, e1, e2⟩ _ => ⟨zs, e1, e2.trans (List.take_sublist_take_left (Nat.le_succ k))⟩)
    (fun k x acc d hx ⟨zs, e1, e2⟩ _ e => ⟨zs ++ [x], by subst e1; subst e; rw [List.map_append]; rfl, by rw [List.take_add_one, hx]; exact e2.append (List.Sublist.refl _)⟩) n (by simpa using hn) hs) (Nat.le_refl _) fun d ⟨ds, e, zs, e1, e2⟩ => ⟨zs, by rw [List.take_length] at e2; exact e2, by subst e; subst e1; rfl⟩
/-- x = what is drawn -/
theorem st_setD {ss : List Stmt} {N : DEnv → Prop} {R : PyData → DEnv → Prop} {m l : Nat} {x : Str} {pos' : Pos} (h : Dj i c X Γ e E Q) (g : XG X.calm X.A X.N) (hs : ∀ v, Q v → St X ((setU Γ i (m + c)).set l (.val (E.f v))) ss N R) (hc : m + c ≤ big) (hm : Γ[i]? = some (.urn m) := by rfl) (o : OneU Γ i := by exact OneU.of rfl) (hi : X.N[l]? = some x := by rfl) (hx : Loc X.env.scope x := by first | exact .inl rfl | exact .inr rfl) (hsw : swapsWith e (some (.Name x pos')) pos.line X.env = pure false := by rfl)
    (hf : X.fn x = true ∨ X.env.scope.names.lookup x = some .local := by first | exact .inl rfl | exact .inr rfl | assumption) : St X Γ (.Assign [.Name x pos'] e pos :: ss) N R :=
  st_setJ h g hm o hc (fun d ⟨v, q, e⟩ => by subst e; exact hs v q) hi hx hsw hf
theorem st_forJ {ss body : List Stmt} {N : DEnv → Prop} {R : PyData → DEnv → Prop} {m : Nat} {p pos2 : Pos} {gt : TG} {Q1 : Int → Prop} (g : XG X.calm X.A X.N) (vs : List Nat) (hr : X.mg "range" = none) (he : Ij i c X Γ e Q1) (hm : Γ[i]? = some (.urn m)) (o : OneU Γ i) (hc : m + c ≤ big) (hq : ∀ n, Q1 n → 0 ≤ n ∧ n ≤ 1000000) (J : Int → Nat → DEnv → Prop) (hg : PG X tg gt) (h0 : ∀ n, Q1 n → J n 0 (setU Γ i (m + c)))
    (hb : ∀ n (j : Nat) Γ1, Q1 n → (j : Int) < n → J n j Γ1 → ∃ Γ2, Bd vs gt Γ1 (.int j) Γ2 ∧ St X Γ2 body (J n (j + 1)) R) (hn : ∀ n Γ1, Q1 n → J n n.toNat Γ1 → St X Γ1 ss N R) (hgl : Gl X "range" := by rfl)
    (hse : starEach [e] X.env = (false, eval e X.env) :: starEach [] X.env := by rfl)
    (hp : PassesOwn (model X.prog X.w) X.A X.env X.xe := by exact PassesOwn.never) (hs : ∀ x, foldedSetIterable (.Call (.Name "range" p) [e] [] pos) X.env x = pure x := by intro _; rfl) : St X Γ (.For tg (.Call (.Name "range" p) [e] [] pos) body [] pos2 :: ss) N R :=
  st_cons (N1 := fun G => ∃ n, Q1 n ∧ J n n.toNat G) (s_forJ g vs hr he hm o hc hq J hg h0 hb (fun n G q h => ⟨n, q, h⟩) hgl hse hp hs) fun G ⟨n, q, h⟩ => hn n G q h
/-- known less: some slots forgotten -/
inductive Wk : DEnv → DEnv → Prop
  | nil : Wk [] []
  | same {s : Slot} {Γ Γ' : DEnv} : Wk Γ Γ' → Wk (s :: Γ) (s :: Γ')
  | drop {s : Slot} {Γ Γ' : DEnv} : Wk Γ Γ' → Wk (s :: Γ) (.no :: Γ')
theorem Wk.len : ∀ {Γ Γ' : DEnv}, Wk Γ Γ' → Γ'.length = Γ.length
  | _, _, .nil => rfl
  | _, _, .same h => congrArg (· + 1) h.len
  | _, _, .drop h => congrArg (· + 1) h.len
theorem Wk.at : ∀ {Γ Γ' : DEnv} {j : Nat} {t : Slot}, Wk Γ Γ' → t ≠ .no → Γ'[j]? = some t → Γ[j]? = some t
  | _, _, _, _, .nil, _, e => by simp at e
  | _, _, 0, _, .same h, _, e => by simpa using e
  | _, _, 0, _, .drop h, n, e => by simp at e; exact absurd e.symm n
  | _, _, j + 1, t, .same h, n, e => by simpa using Wk.at (j := j) h n (by simpa using e)
  | _, _, j + 1, t, .drop h, n, e => by simpa using Wk.at (j := j) h n (by simpa using e)
theorem REnv.wk {ct : Ct} {σ : L2.St} {H : Hp} {Γ Γ' : DEnv} (R : REnv ct σ H Γ) (w : Wk Γ Γ') : REnv ct σ H Γ' :=
  R.weak w.len (fun j d e => w.at nofun e) (fun j d e => w.at nofun e) (fun j m e => ⟨m, Nat.le_refl _, w.at nofun e⟩) fun j v S e => w.at nofun e
theorem st_end {Γ Γ' : DEnv} {N : DEnv → Prop} {R : PyData → DEnv → Prop} (w : Wk Γ Γ') (h : N Γ') : St X Γ [] N R := PSs_mono pss_nil fun D σ H ⟨c, E, k, _⟩ => k c σ H Γ' (Le.same (Same.refl H)) h (E.wk w)
theorem st_wk {Γ Γ' : DEnv} {ss : List Stmt} {N : DEnv → Prop} {R : PyData → DEnv → Prop} (w : Wk Γ Γ') (h : St X Γ' ss N R) : St X Γ ss N R := PSs_mono h fun D σ H ⟨c, E, k, r⟩ => ⟨c, E.wk w, k, r⟩
end
end DL

namespace DL
open PySem PySem.Spec PyProof.Rows L2
/-! dicts of one's own -/
theorem dc_it {J : It} {n : Nat} {G : Hp → Prop} {Y : Nat → Hp → V → Hp → Prop} (w : Walk J n G Y) {g : TG} {tt : TT} {tk tv : TE} {vs : List Nat} {σ : L2.St} {H1 : Hp} {D : Addr} {Qd : Hp → Prop} (Pv : Nat → Hp → Prop) (h0 : Pv 0 (upd H1 D (.dK []))) (hG : ∀ i H, i ≤ n → Pv i H → G H)
    (hs : ∀ i x H H', i < n → Pv i H → Y i H x H' → g x (wipe σ vs) H' fun σ2 H2 => wipe σ2 vs = wipe σ vs ∧ tt σ2 H2 fun b H3 =>
      if b = true then tk σ2 H3 fun y H4 => tv σ2 H4 fun z H5 => ∃ kvs k, y = kV k ∧ H5 D = some (.dK kvs) ∧ kvs.length < sizeLine ∧ Pv (i + 1) (upd H5 D (.dK (putK kvs k z))) else Pv (i + 1) H3) (hd : ∀ H, Pv n H → Qd H) :
    ∃ W : Nat → Nat → Hp → Prop, (∃ m, W 0 m (upd H1 D (.dK []))) ∧ ∀ i m H, W i m H →
      (J.stop i H ∧ Qd H) ∨ (J.go i H ∧ ∃ Nx : Hp → Prop, (∀ H', Nx H' → ∃ m', m' < m ∧ W (i + 1) m' H') ∧ ∀ x H', J.yld i H x H' → g x (wipe σ vs) H' fun σ2 H2 => wipe σ2 vs = wipe σ vs ∧ tt σ2 H2 fun b H3 =>
        if b = true then tk σ2 H3 fun y H4 => tv σ2 H4 fun z H5 => ∃ kvs k, y = kV k ∧ H5 D = some (.dK kvs) ∧ kvs.length < sizeLine ∧ Nx (upd H5 D (.dK (putK kvs k z))) else Nx H3) := by
  refine ⟨fun i m H => m = n - i ∧ i ≤ n ∧ Pv i H, ⟨n, by simp, Nat.zero_le _, h0⟩, ?_⟩
  rintro i m H ⟨rfl, hi, p⟩
  have q := hG i H hi p
  by_cases hlt : i < n
  · refine .inr ⟨w.goes i H hlt q, Pv (i + 1), fun H' p' => ⟨n - (i + 1), by omega, rfl, hlt, p'⟩, fun x H' y => hs i x H H' hlt p (w.yields i H x H' hlt q y)⟩
  · have e : i = n := by omega
    subst e
    exact .inl ⟨w.stops H q, hd H p⟩
theorem dS_of {β : Type} {E : Enc β} : ∀ {acc : List (Key × V)} {kvs : List (Str × β)}, acc.map (·.1) = kvs.map (fun p => Sum.inr p.1) → dS E kvs = .dict ((acc.map fun p => keyD p.1).zip (kvs.map fun p => E.f p.2)) := fun {acc kvs} h => by
  unfold dS
  congr 1
  induction kvs generalizing acc with
  | nil => cases acc <;> simp_all
  | cons p kvs ih =>
    cases acc with
    | nil => simp at h
    | cons q acc =>
      simp only [List.map_cons, List.cons.injEq] at h
      simp only [List.map_cons, List.zip_cons_cons, List.cons.injEq]
      exact ⟨by rw [h.1]; rfl, ih h.2⟩
section
variable {X : Cx} {bz : Bool} {Γ : DEnv} {kx vx tg iter : Expr} {scope : Scope} {pos : Pos}
theorem nw_dc {α β : Type} (own : List (Str × Nat)) (g : XG X.calm X.A X.N) {gt : TG} (E : Enc β) (xs : List α) (f : α → PyData) (ky : α → Str) (r : α → β) (Γb : α → DEnv) (nd : (xs.map ky).Nodup)
    (hi : Ei false X tg Γ iter (xs.map f)) (ok : BlkOk X.N X.env.scope scope own)
    (hg : ∀ (s : Shared) (H : Hp) (C : Addr) (cl : List (Str × Addr)) (fp : List Addr), PG (X.blk s H scope (compEnvC scope cl C X.env) fp) tg gt)
    (hbd : ∀ x ∈ xs, Bd (own.map (·.2)) gt (wipG Γ (own.map (·.2))) (f x) (Γb x))
    (hk : ∀ (s : Shared) (H : Hp) (C : Addr) (cl : List (Str × Addr)) (fp : List Addr), ∀ x ∈ xs, Ev false (X.blk s H scope (compEnvC scope cl C X.env) fp) (Γb x) kx (.str (ky x)))
    (he : ∀ (s : Shared) (H : Hp) (C : Addr) (cl : List (Str × Addr)) (fp : List Addr), ∀ x ∈ xs, Ev false (X.blk s H scope (compEnvC scope cl C X.env) fp) (Γb x) vx (E.f (r x)))
    (hs : ∀ x, foldedSetIterable iter X.env x = pure x := by intro _; rfl) :
    Nw X Γ (.DictComp kx vx [⟨tg, iter, [], 0⟩] scope pos) (dS E (xs.map fun x => (ky x, r x))) := by
  refine PE_mono (pe_dc (own := own) (g := gt) (wi := tEi false Γ (xs.map f)) (tt := fun σ H Q => ∃ x : α, x ∈ xs ∧ tTv (Γb x) true σ H Q) (tk := fun σ H Q => ∃ x : α, x ∈ xs ∧ tEv false (Γb x) (.str (ky x)) σ H Q) (tv := fun σ H Q => ∃ x : α, x ∈ xs ∧ tEv false (Γb x) (E.f (r x)) σ H Q) g.calm g.nd hi ok hg
    (fun s H C cl fp => PTs_ex fun x _ => tsv_nil) (fun s H C cl fp => PE_ex fun x hx => hk s H C cl fp x hx) (fun s H C cl fp => PE_ex fun x hx => he s H C cl fp x hx) hs) fun σ H Q ⟨c, R, k⟩ => ⟨c, R, fun J H1 s1 ⟨G, Y, hz, w, hG, hY⟩ D hD => ?_⟩
  have R1 := R.same s1
  rw [List.length_map] at w hz
  refine dc_it (g := gt) (tt := fun σ H Q => ∃ x : α, x ∈ xs ∧ tTv (Γb x) true σ H Q) (tk := fun σ H Q => ∃ x : α, x ∈ xs ∧ tEv false (Γb x) (.str (ky x)) σ H Q) (tv := fun σ H Q => ∃ x : α, x ∈ xs ∧ tEv false (Γb x) (E.f (r x)) σ H Q) (vs := own.map (·.2)) (σ := σ) (Qd := fun H => Q (.ref D) H) w
    (fun i H2 => Same H1 H2 ∧ ∃ acc : List (Key × V), H2 D = some (.dK acc) ∧ acc.map (·.1) = (xs.take i).map (fun x => Sum.inr (ky x)) ∧ DbAll (fun b => c.B b ∨ b = D) H2 (acc.map (·.2)) ((xs.take i).map fun x => E.f (r x))) ⟨same_new hD _, [], upd_same, rfl, .nil⟩ (fun i H2 _ h => hG H2 (Same.stp h.1)) (fun i v H2 H3 hi ⟨s2, acc, ea, ek, ha⟩ y => ?_) fun H2 ⟨s2, acc, ea, ek, ha⟩ => ?_
  · have hx : xs[i]? = some xs[i] := List.getElem?_eq_getElem hi
    obtain ⟨s3, d, hd, hv⟩ := hY i H2 v H3 (by simpa using hi) (Same.stp s2) y
    have ed : d = f xs[i] := by
      rw [List.getElem?_map, hx] at hd
      exact (Option.some.inj hd).symm
    subst ed
    have hm : xs[i] ∈ xs := List.getElem_mem hi
    have R3 := (R1.grow (s2.trans s3) hD (s3 _ _ ea) trivial).1
    have hv' : Db (fun b => c.B b ∨ b = D) H3 v (f xs[i]) := hv _ (fun b h => .inl h) fun b h => h.imp id fun e => by rw [e]; exact hD
    refine hbd xs[i] hm _ _ H3 v _ (R3.wipe _) hv' fun σ2 R4 w4 => ⟨w4.trans (wipe_wipe _ _), xs[i], hm, _, R4, fun H4 s4 => ?_⟩
    have hlen : acc.length < sizeLine := by
      have := congrArg List.length ek
      simp only [List.length_map, List.length_take] at this
      omega
    refine ite2 (fun _ => ?_) (fun h => absurd rfl h)
    refine ⟨xs[i], hm, _, R4.same s4, fun yk H5 s5 hyk => ⟨xs[i], hm, _, (R4.same s4).same s5, fun z H6 s6 hz6 => ?_⟩⟩
    cases hyk
    have S := s3.trans (s4.trans (s5.trans s6))
    have e6 := S _ _ ea
    have nk : valV acc (Sum.inr (ky xs[i])) = none := by
      unfold valV
      rw [List.find?_eq_none.mpr]
      · rfl
      · intro q hq
        have h1 : q.1 ∈ acc.map (·.1) := List.mem_map_of_mem hq
        rw [ek, List.mem_map] at h1
        obtain ⟨x2, hx2, e2⟩ := h1
        intro e3
        have e3 : q.1 = Sum.inr (ky xs[i]) := by simpa using e3
        rw [← e2] at e3
        have e4 : ky x2 = ky xs[i] := by simpa using e3
        obtain ⟨j, hj, ej⟩ := List.getElem_of_mem hx2
        simp only [List.length_take] at hj
        rw [List.getElem_take] at ej
        have h5 := (List.getElem_inj (h₀ := by simpa using (by omega : j < xs.length)) (h₁ := by simpa using hi) nd).mp (by simp only [List.getElem_map]; rw [ej]; exact e4 : (xs.map ky)[j]'_ = (xs.map ky)[i]'_)
        omega
    refine ⟨acc, Sum.inr (ky xs[i]), rfl, e6, hlen, fun b o e => ?_, acc ++ [(Sum.inr (ky xs[i]), z)], by rw [putK_new _ nk]; exact upd_same, ?_, ?_⟩
    · rw [upd_ne (ne_of_none e hD)]
      exact S _ _ (s2 _ _ e)
    · rw [List.take_add_one, hx, List.map_append, List.map_append, ek]
      rfl
    · rw [List.take_add_one, hx, List.map_append, List.map_append, putK_new _ nk]
      have mv : ∀ b o, (¬ (c.B b ∨ b = D) ∨ ¬ IsMut o) → H6 b = some o → (upd H6 D (.dK (acc ++ [(Sum.inr (ky xs[i]), z)]))) b = some o := fun b o h e => by
        have nb : b ≠ D := fun q => by
          rcases h with h | h
          · exact h (.inr q)
          · rw [q, e6] at e
            cases e
            exact h trivial
        rw [upd_ne nb]
        exact e
      exact (Db.mvAll mv _ _ (ha.same S)).append (.one (hz6.mv mv))
  · rw [List.take_length] at ha ek
    refine k D H2 (free_of_same s1 hD) (s1.trans s2) ?_
    have := OwnAt.dK (B := fun b => c.B b ∨ b = D) ea ha
    rw [dS_of (acc := acc) (by rw [ek, List.map_map]; rfl), List.map_map]
    exact this
end
end DL

namespace DL
open PySem PySem.Spec PyProof.Rows L2
/-! stores into dicts of one's own -/
def setS {β : Type} (kvs : List (Str × β)) (k : Str) (v : β) : List (Str × β) := kvs.map fun p => if p.1 = k then (p.1, v) else p
theorem setS_keys {β : Type} (kvs : List (Str × β)) (k : Str) (v : β) : (setS kvs k v).map (·.1) = kvs.map (·.1) := by
  unfold setS
  rw [List.map_map]
  refine List.map_congr_left fun p _ => ?_
  show (if p.1 = k then (p.1, v) else p).1 = p.1
  split <;> rfl
section
variable {B : Addr → Prop} {H : Hp} {β : Type} {E : Enc β} {a : Addr}
theorem dS_eq : ∀ {kvs : List (Str × β)} {l : List (Key × V)} {ds : List PyData}, ds.length = l.length → (kvs.map fun p => (PyData.str p.1, E.f p.2)) = (l.map fun p => keyD p.1).zip ds → l.map (·.1) = kvs.map (fun p => Sum.inr p.1) ∧ kvs.map (fun p => E.f p.2) = ds
  | [], [], [], _, _ => ⟨rfl, rfl⟩
  | [], _ :: _, _ :: _, _, h => by simp at h
  | _ :: _, [], [], _, h => by simp at h
  | _, [], _ :: _, h, _ => by simp at h
  | _, _ :: _, [], h, _ => by simp at h
  | p :: kvs, (k, u) :: l, d :: ds, hl, h => by
    simp only [List.map_cons, List.zip_cons_cons, List.cons.injEq, Prod.mk.injEq] at h
    obtain ⟨⟨h1, h2⟩, h3⟩ := h
    obtain ⟨i1, i2⟩ := dS_eq (kvs := kvs) (l := l) (ds := ds) (by simpa using hl) h3
    refine ⟨?_, by rw [List.map_cons, i2, h2]⟩
    rw [List.map_cons, List.map_cons, i1]
    cases k with
    | inl i => simp [keyD] at h1
    | inr x => simp [keyD] at h1; rw [h1]
theorem ownS_inv {kvs : List (Str × β)} (ne : kvs ≠ []) (h : OwnAt B H a (dS E kvs)) : ∃ l : List (Key × V), H a = some (.dK l) ∧ l.map (·.1) = kvs.map (fun p => Sum.inr p.1) ∧ DbAll B H (l.map (·.2)) (kvs.map fun p => E.f p.2) := by
  unfold dS at h
  generalize hL : (kvs.map fun p => (PyData.str p.1, E.f p.2)) = L at h
  cases h with
  | @dK l ds e1 h =>
    obtain ⟨i1, i2⟩ := dS_eq (by rw [← h.length, List.length_map]) hL
    exact ⟨l, e1, i1, by rw [i2]; exact h⟩
  | @dT l ds e1 h =>
    exfalso
    cases kvs with
    | nil => exact ne rfl
    | cons p kvs =>
      cases l with
      | nil => simp at hL
      | cons q l =>
        cases ds with
        | nil => simp at hL
        | cons d ds => simp at hL
theorem dbAll_put {k : Str} {z : V} {v : β} (hz : Db B H z (E.f v)) : ∀ {l : List (Key × V)} {kvs : List (Str × β)}, l.map (·.1) = kvs.map (fun p => Sum.inr p.1) → DbAll B H (l.map (·.2)) (kvs.map fun p => E.f p.2) → DbAll B H ((l.map fun kv => if kv.1 = Sum.inr k then (kv.1, z) else kv).map (·.2)) ((setS kvs k v).map fun p => E.f p.2)
  | [], [], _, _ => .nil
  | [], _ :: _, h, _ => by simp at h
  | _ :: _, [], h, _ => by simp at h
  | q :: l, p :: kvs, h1, h2 => by
    simp only [List.map_cons, List.cons.injEq] at h1
    rw [List.map_cons, List.map_cons] at h2
    cases h2 with
    | cons x t =>
      have ih := dbAll_put (k := k) hz h1.2 t
      unfold setS at ih ⊢
      rw [List.map_cons, List.map_cons, List.map_cons, List.map_cons]
      refine .cons ?_ ih
      by_cases e : p.1 = k
      · rw [if_pos e, if_pos (by rw [h1.1, e])]
        exact hz
      · rw [if_neg e, if_neg (by rw [h1.1]; simpa using e)]
        exact x
end
section
variable {X : Cx} {Γ : DEnv} {R : PyData → DEnv → Prop} {e : Expr} {pos : Pos} {β : Type}
/-- x[k] = v, x an own dict that has the key k -/
theorem o_dput (E : Enc β) (kvs : List (Str × β)) (k : Str) (v : β) (g : XG X.calm X.A X.N) {i : Nat} {x : Str} {p1 tpos : Pos} {e2 : Expr} (he : Ev false X Γ e (E.f v)) (hj : Ev false X Γ e2 (.str k)) (hk : k ∈ kvs.map (·.1)) (hl : kvs.length < 1000000) (h : Γ[i]? = some (.own (dS E kvs)) := by rfl)
    (hN : X.N[i]? = some x := by rfl) (hv : Vis X.env.scope x := by first | exact Or.inl rfl | exact Or.inr (Or.inl rfl) | exact Or.inr (Or.inr rfl)) (hd : (x == ("__debug__" : Str)) = false := by decide)
    (hcd : (x == ("__classdict__" : Str)) = false := by decide)
    (ha : ∀ v, assign (.Subscript (.Name x p1) e2 tpos) X.env v = (do
      let ov ← holding [v] (eval (.Name x p1) X.env)
      let iv ← holding [v, ov] (eval e2 X.env)
      standAt tpos
      holding [v, ov, iv] (setItem ov iv v)
      release [v, ov, iv] []) := by intro _; rfl)
    (hs : swapsWithSole [.Subscript (.Name x p1) e2 tpos] e pos.line X.env = pure false := by rfl) (hw : swappedStores [.Subscript (.Name x p1) e2 tpos] e X.env = pure none := by rfl)
    (hq : (assignEach [.Subscript (.Name x p1) e2 tpos] X.env).map (·.2) = [assign (.Subscript (.Name x p1) e2 tpos) X.env] := by rfl) :
    S1 X Γ (.Assign [.Subscript (.Name x p1) e2 tpos] e pos) (fun G => G = Γ.set i (.own (dS E (setS kvs k v)))) R :=
  PS_mono (ps_asg he (pg_sub (pe_var hN hv hd hcd) hj (set_dict (by have := g.un; omega)) ha) hs hw hq) fun D σ H ⟨c, E0, kk, r⟩ => ⟨c, E0, fun z H1 s1 hz => by
    obtain ⟨a, h1, h2, h3, h4, h5⟩ := (E0.same s1).own i _ h
    refine ⟨_, h1, c, E0.same s1, fun u H2 s2 hu => ?_⟩
    cases hu
    have ne : kvs ≠ [] := fun q => by subst q; simp at hk
    obtain ⟨l, q1, q2, q3⟩ := ownS_inv ne (h5.same s2)
    have ll : l.length = kvs.length := by simpa using congrArg List.length q2
    have hany : (l.any fun kv => decide (kv.1 = Sum.inr k)) = true := by
      obtain ⟨p, hp, e⟩ := List.mem_map.mp hk
      have : Sum.inr k ∈ l.map (·.1) := by rw [q2]; exact List.mem_map.mpr ⟨p, hp, by rw [e]⟩
      obtain ⟨q, hq, e⟩ := List.mem_map.mp this
      exact List.any_eq_true.mpr ⟨q, hq, by simp [e]⟩
    have ep : putK l (Sum.inr k) z = l.map (fun kv => if kv.1 = Sum.inr k then (kv.1, z) else kv) := by
      unfold putK
      rw [if_pos hany]
    refine ⟨a, _, rfl, DPut.k (k := Sum.inr k) q1 (by rw [ll]; exact Nat.lt_of_lt_of_le hl sl_ge), ?_⟩
    have mv : ∀ b o', (¬ c.B b ∨ ¬ IsMut o') → H2 b = some o' → (upd H2 a (.dK (putK l (Sum.inr k) z))) b = some o' := mv_own h2 q1 trivial
    have hk2 : (putK l (Sum.inr k) z).map (·.1) = (setS kvs k v).map (fun p => Sum.inr p.1) := by
      rw [show (fun p : Str × β => (Sum.inr p.1 : Key)) = Sum.inr ∘ (·.1) from rfl, ← List.map_map, setS_keys, List.map_map, ep, List.map_map]
      rw [show (Sum.inr ∘ (·.1) : Str × β → Key) = (fun p => Sum.inr p.1) from rfl, ← q2]
      refine List.map_congr_left fun p _ => ?_
      show (if p.1 = Sum.inr k then (p.1, z) else p).1 = p.1
      split <;> rfl
    have hO : OwnAt c.B (upd H2 a (.dK (putK l (Sum.inr k) z))) a (dS E (setS kvs k v)) := by
      rw [dS_of hk2]
      refine .dK upd_same ?_
      rw [ep] at mv ⊢
      exact Db.mvAll mv _ _ (dbAll_put (hz.same s2) q2 q3)
    have W := ((E0.same s1).same s2).change h h1 (o := .dK (putK l (Sum.inr k) z)) (d1 := dS E (setS kvs k v)) trivial hO
    exact kk c σ _ _ ((Le.same (s1.trans s2)).trans W.2) rfl W.1⟩
end
theorem t_len2 {X : Cx} {bz : Bool} {Γ : DEnv} {e : Expr} {pos p : Pos} {d a b : PyData} (hm : X.mg "len" = none) (ha : Ev bz X Γ e d) (hs : isSeq d [a, b]) (hg : Gl X "len" := by rfl) (he : starEach [e] X.env = (false, eval e X.env) :: starEach [] X.env := by rfl) (hpl : (backTo pos (starEach [] X.env)).any (·.1) = false := by rfl) : Ev bz X Γ (.Call (.Name "len" p) [e] [] pos) (eI.f 2) :=
  ev_call cr_len hm (av_cons ha av_nil he) ⟨d, _, rfl, seq_len hs, rfl⟩ hg (by decide +kernel) (by decide) (by decide) he hpl
theorem fnOk_or {Pr : Program} {w : World} {K : PySem.W.Frag} {mg : Str → Option Value} {base : Heap} {f : Addr} {fd : FuncData} {ps : List Str} {k : Nat} {P1 P2 : List PyData → PyData → Prop} (h1 : FnOk Pr w K mg base CX0 k f fd ps (spD P1)) (h2 : FnOk Pr w K mg base CX0 k f fd ps (spD P2)) : FnOk Pr w K mg base CX0 k f fd ps (spD fun ds d => P1 ds d ∨ P2 ds d) := by
  have key : ∀ vs H Q E, spD (fun ds d => P1 ds d ∨ P2 ds d) vs H Q E → spD P1 vs H Q E ∨ spD P2 vs H Q E := fun vs H Q E ⟨B, ds, d, a, b, c, q⟩ => c.elim (fun c => .inl ⟨B, ds, d, a, b, c, q⟩) fun c => .inr ⟨B, ds, d, a, b, c, q⟩
  exact ⟨fun vs H Q E q => (key vs H Q E q).elim (h1.len vs H Q E) (h2.len vs H Q E), fun A outer s H args us vs Q E hr he hb hv hs => (key vs H Q E hs).elim (h1.run A outer s H args us vs Q E hr he hb hv) (h2.run A outer s H args us vs Q E hr he hb hv)⟩
end DL

namespace DL
open PySem PySem.Spec PyProof.Rows L2
/-! plain facts: open sets, folds of stores -/
section
variable {α : Type}
theorem openStep_mem (p : List α → Bool) : ∀ (n : Nat) (xs : List α), xs.length ≤ n → ∀ o ∈ xs.foldl (openStep p) [[]], o.Sublist xs ∧ (o = [] ∨ p o = true)
  | n, xs, hn => by
    rcases List.eq_nil_or_concat xs with rfl | ⟨ys, y, rfl⟩
    · intro o ho
      simp at ho
      subst ho
      exact ⟨List.Sublist.refl _, .inl rfl⟩
    · cases n with
      | zero => simp at hn
      | succ n =>
        have ih := openStep_mem p n ys (by simpa using hn)
        rw [List.concat_eq_append, List.foldl_append]
        generalize ys.foldl (openStep p) [[]] = l at ih ⊢
        intro o ho
        simp only [List.foldl_cons, List.foldl_nil, openStep, List.mem_append, List.mem_filter, List.mem_map] at ho
        rcases ho with ho | ⟨⟨q, hq, rfl⟩, h2⟩
        · exact ⟨(ih o ho).1.trans (List.sublist_append_left _ _), (ih o ho).2⟩
        · exact ⟨(ih q hq).1.append (List.Sublist.refl _), .inr h2⟩
theorem open_mem {f : List (List α)} {p : List α → Bool} {xs : List α} (h : f = xs.foldl (fun l x => l ++ (l.map fun o => o ++ [x]).filter p) [[]]) : ∀ o ∈ f, o.Sublist xs ∧ (o = [] ∨ p o = true) := fun o ho => by
  subst h
  exact openStep_mem p _ xs (Nat.le_refl _) o ho
theorem fold_keys {γ β : Type} (step : List (Str × β) → γ → List (Str × β)) (hs : ∀ t x, (step t x).map (·.1) = t.map (·.1)) : ∀ (xs : List γ) (t : List (Str × β)), (xs.foldl step t).map (·.1) = t.map (·.1)
  | [], _ => rfl
  | x :: xs, t => by rw [List.foldl_cons, fold_keys step hs xs, hs]
theorem maxT_mem {lt : α → α → Bool} : ∀ (xs : List α) (x : α), maxT lt x xs ∈ x :: xs
  | [], x => by simp [maxT]
  | y :: ys, x => by
    have h := maxT_mem (lt := lt) ys (if lt x y = true then y else x)
    rw [show maxT lt x (y :: ys) = maxT lt (if lt x y = true then y else x) ys from rfl]
    rcases List.mem_cons.mp h with e | e
    · rw [e]
      split
      · exact List.mem_cons_of_mem _ List.mem_cons_self
      · exact List.mem_cons_self
    · exact List.mem_cons_of_mem _ (List.mem_cons_of_mem _ e)
theorem maxL_mem {lt : α → α → Bool} {d : α} {xs : List α} (h : xs ≠ []) : maxL lt d xs ∈ xs := by
  cases xs with
  | nil => exact absurd rfl h
  | cons x xs => exact maxT_mem xs x
end
end DL

namespace DL
open PySem PySem.Spec PyProof.Rows L2
/-! the law's own draws -/
def P_law_numbers (ds : List PyData) (d : PyData) : Prop := ∃ (many below : Int) (v : List Int), ds = [.int many, .int below] ∧ 0 ≤ many ∧ many ≤ 16 ∧ 0 < below ∧ below < 1000000 ∧ (v.length : Int) = many ∧ (∀ x ∈ v, 0 ≤ x ∧ x < below) ∧ d = (eT eI).f v
def KA : List Str := [Str.ofString "a", Str.ofString "b", Str.ofString "c", Str.ofString "d"]
structure GoodRules (r : List Str × List (List Str)) : Prop where
  kinds : r.1 = KA.take 2 ∨ r.1 = KA.take 3 ∨ r.1 = KA.take 4
  few : r.2.length ≤ 4
  asc : Asc (ltL ltN) r.2
  nodup : r.2.Nodup
  grp : ∀ g ∈ r.2, g ≠ [] ∧ g.Sublist r.1
def P_law_rules (ds : List PyData) (d : PyData) : Prop := ∃ (r : List Str × List (List Str)), ds = [] ∧ GoodRules r ∧ d = (eP (eT eN) (eT (eT eN))).f r
section
variable {X : Cx} {Γ : DEnv} {a b e e1 e2 t : Expr} {es : List Expr} {pos p p1 p2 p3 : Pos} {i c c1 c2 k : Nat} {d : PyData} {α β γ : Type} {E : Enc α} {F : Enc β} {v : α} {Q Q1 : α → Prop} {u : Str} {bz : Bool}
theorem d_rules (F : FnU X.prog X.w X.K X.mg X.base "_law_rules" k ["urn"] 20 P_law_rules) (hr : Room k X.A) (hN : X.N[i]? = some u := by rfl)
    (hv : Vis X.env.scope u := by first | exact Or.inl rfl | exact Or.inr (Or.inl rfl) | exact Or.inr (Or.inr rfl)) (hd : (u == ("__debug__" : Str)) = false := by decide) (hcd : (u == ("__classdict__" : Str)) = false := by decide) (hg : Gl X "_law_rules" := by rfl)
    (he : starEach [.Name u p2] X.env = (false, eval (.Name u p2) X.env) :: starEach [] X.env := by rfl) (hpl : (backTo pos (starEach [] X.env)).any (·.1) = false := by rfl) : Dj i 20 X Γ (.Call (.Name "_law_rules" p) [.Name u p2] [] pos) (eP (eT eN) (eT (eT eN))) GoodRules :=
  ej_mono (ej_fnU (P' := fun d => ∃ r, GoodRules r ∧ d = (eP (eT eN) (eT (eT eN))).f r) F hr aj_nil (fun ds e => by
    subst e
    exact ⟨_, (KA.take 2, []), rfl, ⟨.inl rfl, by decide, List.Pairwise.nil, List.nodup_nil, fun _ h => nomatch h⟩, rfl⟩)
    (fun ds d e ⟨r, _, h1, h2⟩ => ⟨r, h1, h2⟩) hN hv hd hcd hg (by decide) he hpl) (by omega) fun d h => h
theorem d_numbers {many below : Int} (F : FnU X.prog X.w X.K X.mg X.base "_law_numbers" k ["urn", "many", "below"] 16 P_law_numbers) (hr : Room k X.A) (ha : ∀ m, Ev false X (setU Γ i m) e1 (.int many)) (hb : ∀ m, Ev false X (setU Γ i m) e2 (.int below)) (h0 : (0 ≤ many ∧ many ≤ 16) ∧ 0 < below ∧ below < 1000000) (hN : X.N[i]? = some u := by rfl)
    (hv : Vis X.env.scope u := by first | exact Or.inl rfl | exact Or.inr (Or.inl rfl) | exact Or.inr (Or.inr rfl)) (hd : (u == ("__debug__" : Str)) = false := by decide) (hcd : (u == ("__classdict__" : Str)) = false := by decide) (hg : Gl X "_law_numbers" := by rfl)
    (hs1 : starEach [e1, e2] X.env = (false, eval e1 X.env) :: starEach [e2] X.env := by rfl) (hs2 : starEach [e2] X.env = (false, eval e2 X.env) :: starEach [] X.env := by rfl)
    (he : starEach [.Name u p2, e1, e2] X.env = (false, eval (.Name u p2) X.env) :: starEach [e1, e2] X.env := by rfl) (hpl : (backTo pos (starEach [e1, e2] X.env)).any (·.1) = false := by rfl) : Dj i 16 X Γ (.Call (.Name "_law_numbers" p) [.Name u p2, e1, e2] [] pos) (eT eI) (fun v => (v.length : Int) = many ∧ ∀ x ∈ v, 0 ≤ x ∧ x < below) :=
  ej_mono (ej_fnU (P' := fun d => ∃ v : List Int, ((v.length : Int) = many ∧ ∀ x ∈ v, 0 ≤ x ∧ x < below) ∧ d = (eT eI).f v) F hr (aj_cons (ej_pure ha) (aj_cons (ej_pure hb) aj_nil hs2) hs1) (fun ds ⟨d1, ds1, h1, h2, d2, ds2, h3, h4, h5⟩ => by
    subst h5; subst h4; subst h3; subst h2; subst h1
    exact ⟨_, many, below, List.replicate many.toNat 0, rfl, h0.1.1, h0.1.2, h0.2.1, h0.2.2, by simp; omega, fun x hx => by rw [List.eq_of_mem_replicate hx]; omega, rfl⟩)
    (fun ds d ⟨d1, ds1, h1, h2, d2, ds2, h3, h4, h5⟩ ⟨m', b', w, g1, _, _, _, _, g2, g3, g4⟩ => by subst h5; subst h4; subst h3; subst h2; subst h1; cases g1; exact ⟨w, ⟨g2, g3⟩, g4⟩) hN hv hd hcd hg (by decide) he hpl) (by omega) fun d h => h
/-- a, b = e1, e2, both drawn -/
theorem st_parD {ss : List Stmt} {N : DEnv → Prop} {R : PyData → DEnv → Prop} {m l : Nat} {x y : Str} {px py pt : Pos} {kt k2 pt2} {Q2 : β → Prop} (h1 : Dj i c1 X Γ a E Q) (h2 : Dj i c2 X Γ b F Q2) (g : XG X.calm X.A X.N) (hs : ∀ v w, Q v → Q2 w → St X (((setU Γ i (m + (c1 + c2))).set k (.val (E.f v))).set l (.val (F.f w))) ss N R) (hc : m + (c1 + c2) ≤ big) (hm : Γ[i]? = some (.urn m) := by rfl) (o : OneU Γ i := by exact OneU.of rfl) (hi : X.N[k]? = some x := by rfl) (hj : X.N[l]? = some y := by rfl) (hij : k ≠ l := by decide)
    (hx : X.env.scope.names.lookup x = some .local := by rfl) (hy : X.env.scope.names.lookup y = some .local := by rfl)
    (hw : swappedStores [.Tuple [.Name x px, .Name y py] kt pt] (.Tuple [a, b] k2 pt2) X.env = pure (some [x, y]) := by rfl) (hs1 : starEach [a, b] X.env = (false, eval a X.env) :: starEach [b] X.env := by rfl) (hs2 : starEach [b] X.env = (false, eval b X.env) :: starEach [] X.env := by rfl) : St X Γ (.Assign [.Tuple [.Name x px, .Name y py] kt pt] (.Tuple [a, b] k2 pt2) pos :: ss) N R :=
  st_parJ h1 h2 g hm o hc (fun d1 d2 ⟨v, q, e⟩ ⟨w, q2, e2⟩ => by subst e; subst e2; exact hs v w q q2) hi hj hij hx hy hw hs1 hs2
/-- lists of two, of three, each of its kind -/
def eQ3 (b : Bool) (e : Enc α) (e2 : Enc β) (e3 : Enc γ) : Enc (α × β × γ) := ⟨fun p => sqd b [e.f p.1, e2.f p.2.1, e3.f p.2.2], max e.n (max e2.n e3.n) + 1, fun p => by cases b <;> simp only [sqd, PyData.plain, PyData.plainAll, e.plain, e2.plain, e3.plain, Bool.and_self],
  fun p => by
    have h : max (e.f p.1).depth (max (e2.f p.2.1).depth (max (e3.f p.2.2).depth 0)) ≤ max e.n (max e2.n e3.n) := by
      have h1 := e.depth p.1; have h2 := e2.depth p.2.1; have h3 := e3.depth p.2.2
      omega
    cases b <;> (simp only [sqd, PyData.depth, PyData.depthAll]; exact Nat.succ_le_succ h),
  fun x y => by
    cases b <;> (simp only [sqd, PyData.eqv, PyData.eqvAll, Bool.and_eq_true, Bool.and_true, e.eqv, e2.eqv, e3.eqv]; constructor <;> (intro h; first | (obtain ⟨h1, h2, h3⟩ := h; exact Prod.ext h1 (Prod.ext h2 h3)) | (subst h; exact ⟨rfl, rfl, rfl⟩)))⟩
theorem t_lst2 {x : α} {y : β} (ha : Ev bz X Γ a (E.f x)) (hb : Ev bz X Γ b (F.f y)) (hs1 : starEach [a, b] X.env = (false, eval a X.env) :: starEach [b] X.env := by rfl) (hs2 : starEach [b] X.env = (false, eval b X.env) :: starEach [] X.env := by rfl) : Ev bz X Γ (.List [a, b] pos) ((eQ false E F).f (x, y)) := ev_lst (av_cons ha (av_cons hb av_nil hs2) hs1) (Nat.le_of_ble_eq_true rfl)
theorem t_lst3 {G : Enc γ} {x : α} {y : β} {z : γ} (ha : Ev bz X Γ a (E.f x)) (hb : Ev bz X Γ b (F.f y)) (hc : Ev bz X Γ e (G.f z)) (hs1 : starEach [a, b, e] X.env = (false, eval a X.env) :: starEach [b, e] X.env := by rfl) (hs2 : starEach [b, e] X.env = (false, eval b X.env) :: starEach [e] X.env := by rfl) (hs3 : starEach [e] X.env = (false, eval e X.env) :: starEach [] X.env := by rfl) : Ev bz X Γ (.List [a, b, e] pos) ((eQ3 false E F G).f (x, y, z)) := ev_lst (av_cons ha (av_cons hb (av_cons hc av_nil hs3) hs2) hs1) (Nat.le_of_ble_eq_true rfl)
end
end DL

namespace DL
open PySem PySem.Spec PyProof.Rows L2
section
variable {X : Cx} {Γ : DEnv} {a b e : Expr} {pos : Pos} {i c c1 c2 m k l : Nat} {α β : Type} {E : Enc α} {F : Enc β} {Q : α → Prop} {ss : List Stmt} {N : DEnv → Prop} {R : PyData → DEnv → Prop} {P : PyData → Prop}
/-- names of a tuple, what stands right of it drawn -/
theorem s_tupJ {gt : TG} {tg : Expr} {Γ' : PyData → DEnv} (h : Ej i c X Γ e P) (hg : PG X tg gt) (vs : List Nat) (hm : Γ[i]? = some (.urn m)) (o : OneU Γ i) (hc : m + c ≤ big) (hbd : ∀ d, P d → Bd vs gt (setU Γ i (m + c)) d (Γ' d)) (hs : swapsWithSole [tg] e pos.line X.env = pure false := by rfl) (hw : swappedStores [tg] e X.env = pure none := by rfl)
    (h1 : (assignEach [tg] X.env).map (·.2) = [assign tg X.env] := by rfl) : S1 X Γ (.Assign [tg] e pos) (fun G => ∃ d, P d ∧ G = Γ' d) R :=
  PS_mono (ps_asg h hg hs hw h1) fun D σ H ⟨ct, E, kk, r⟩ => ⟨ct, m, hc, o, by rw [setU_self hm]; exact E, fun v d H1 u1 w1 pd hd => by
    have E' : REnv ct σ H (setU Γ i m) := by rw [setU_self hm]; exact E
    obtain ⟨R1, l1⟩ := E'.drawn o.lt o.one u1 w1
    exact hbd d pd ct σ H1 v _ R1 hd fun σ' E2 _ => kk ct σ' H1 _ l1 ⟨d, pd, rfl⟩ E2⟩
/-- a, b = e1, e2, both drawn, one of the names a cell -/
theorem st_parC {x y : Str} {px py pt : Pos} {kt k2 pt2} {Q2 : β → Prop} (h1 : Dj i c1 X Γ a E Q) (h2 : Dj i c2 X Γ b F Q2) (g : XG X.calm X.A X.N) (hs : ∀ v w, Q v → Q2 w → St X (((setU Γ i (m + (c1 + c2))).set k (.val (E.f v))).set l (.val (F.f w))) ss N R) (hc : m + (c1 + c2) ≤ big) (hm : Γ[i]? = some (.urn m) := by rfl) (o : OneU Γ i := by exact OneU.of rfl) (hi : X.N[k]? = some x := by rfl) (hj : X.N[l]? = some y := by rfl)
    (hx : Loc X.env.scope x := by first | exact .inl rfl | exact .inr rfl) (hy : Loc X.env.scope y := by first | exact .inl rfl | exact .inr rfl) (hfx : X.fn x = true ∨ X.env.scope.names.lookup x = some .local := by first | exact .inl rfl | exact .inr rfl) (hfy : X.fn y = true ∨ X.env.scope.names.lookup y = some .local := by first | exact .inl rfl | exact .inr rfl)
    (hh1 : (assignEach [.Name x px, .Name y py] X.env).map (·.2) = assign (.Name x px) X.env :: (assignEach [.Name y py] X.env).map (·.2) := by rfl) (hh2 : (assignEach [.Name y py] X.env).map (·.2) = assign (.Name y py) X.env :: (assignEach [] X.env).map (·.2) := by rfl)
    (hn : (assignEach [.Name x px, .Name y py] X.env).length = 2 := by rfl) (hst : (assignEach [.Name x px, .Name y py] X.env).findIdx? (·.1) = none := by rfl)
    (hsw : swapsWithSole [.Tuple [.Name x px, .Name y py] kt pt] (.Tuple [a, b] k2 pt2) pos.line X.env = pure false := by rfl) (hw : swappedStores [.Tuple [.Name x px, .Name y py] kt pt] (.Tuple [a, b] k2 pt2) X.env = pure none := by rfl)
    (hq : (assignEach [.Tuple [.Name x px, .Name y py] kt pt] X.env).map (·.2) = [assign (.Tuple [.Name x px, .Name y py] kt pt) X.env] := by rfl)
    (hs1 : starEach [a, b] X.env = (false, eval a X.env) :: starEach [b] X.env := by rfl) (hs2 : starEach [b] X.env = (false, eval b X.env) :: starEach [] X.env := by rfl) : St X Γ (.Assign [.Tuple [.Name x px, .Name y py] kt pt] (.Tuple [a, b] k2 pt2) pos :: ss) N R := by
  have ht : Ej i (c1 + c2) X Γ (.Tuple [a, b] k2 pt2) (fun d => ∃ v w, Q v ∧ Q2 w ∧ d = .tuple [E.f v, F.f w]) :=
    ej_mono (ej_tup (P := fun d => ∃ v w, Q v ∧ Q2 w ∧ d = .tuple [E.f v, F.f w]) (aj_cons h1 (aj_cons h2 aj_nil hs2) hs1) fun ds ⟨d1, ds1, e1, ⟨v, p1, e2⟩, d2, ds2, e3, ⟨w, p2, e4⟩, e5⟩ => by
      subst e5; subst e4; subst e3; subst e2; subst e1
      exact ⟨Nat.le_of_ble_eq_true rfl, v, w, p1, p2, rfl⟩) (Nat.le_refl _) fun _ h => h
  refine st_cons (N1 := fun G => ∃ v w, Q v ∧ Q2 w ∧ G = ((setU Γ i (m + (c1 + c2))).set k (.val (E.f v))).set l (.val (F.f w)))
    (PS_mono (s_tupJ (R := R) (Γ' := fun d => match d with | .tuple [d1, d2] => ((setU Γ i (m + (c1 + c2))).set k (.val d1)).set l (.val d2) | _ => Γ) ht (pg_tup g.calm (pgs_cons (pg_name (i := k) g.nd hi hx hfx) (pgs_cons (pg_name (i := l) g.nd hj hy hfy) pgs_nil hh2) hh1) hn hst) [k, l] hm o hc
      (fun d ⟨v, w, p1, p2, e⟩ => by subst e; exact bd_tup (bds_cons (bd_name (by simp)) (bds_cons (bd_name (by simp)) bds_nil))) hsw hw hq) ?_) ?_
  · rintro D σ H ⟨ct, E', kk, r⟩
    refine ⟨ct, E', fun ct' σ' H' G' l' hG => ?_, r⟩
    obtain ⟨d, ⟨v, w, p1, p2, e⟩, e2⟩ := hG
    subst e
    exact kk ct' σ' H' G' l' ⟨v, w, p1, p2, e2⟩
  · rintro G ⟨v, w, p1, p2, e⟩
    rw [e]
    exact hs v w p1 p2
theorem eO_some {h : ∀ a, E.f a ≠ .none} {v : Option α} {d : α} (hv : v.isSome = true) : (eO E h).f v = E.f (v.getD d) := by
  cases v with
  | none => cases hv
  | some x => rfl
end
end DL

namespace DL
/-! plain facts: sums over lists, counts, sets of groups -/
section
variable {α β γ : Type}
/-- the sum of f over a list -/
def sm (xs : List α) (f : α → Int) : Int := (xs.map f).sum
theorem sm_nil (f : α → Int) : sm [] f = 0 := rfl
theorem sm_cons (x : α) (xs : List α) (f : α → Int) : sm (x :: xs) f = f x + sm xs f := by simp [sm]
theorem sm_app (xs ys : List α) (f : α → Int) : sm (xs ++ ys) f = sm xs f + sm ys f := by simp [sm]
theorem sm_le {xs : List α} {f g : α → Int} (h : ∀ x ∈ xs, f x ≤ g x) : sm xs f ≤ sm xs g := by
  induction xs with
  | nil => exact Int.le_refl _
  | cons x xs ih =>
    rw [sm_cons, sm_cons]
    have := h x List.mem_cons_self
    have := ih fun y hy => h y (List.mem_cons_of_mem _ hy)
    omega
theorem sm_congr {xs : List α} {f g : α → Int} (h : ∀ x ∈ xs, f x = g x) : sm xs f = sm xs g := by
  unfold sm; rw [List.map_congr_left h]
theorem sm_add (xs : List α) (f g : α → Int) : sm xs (fun x => f x + g x) = sm xs f + sm xs g := by
  induction xs with
  | nil => rfl
  | cons x xs ih => rw [sm_cons, sm_cons, sm_cons, ih]; omega
theorem sm_zero (xs : List α) : sm xs (fun _ => 0) = 0 := by
  induction xs with
  | nil => rfl
  | cons x xs ih => rw [sm_cons, ih]; rfl
theorem sm_nonneg {xs : List α} {f : α → Int} (h : ∀ x ∈ xs, 0 ≤ f x) : 0 ≤ sm xs f := by
  rw [← sm_zero xs]; exact sm_le h
theorem sm_filter (xs : List α) (p : α → Bool) (f : α → Int) : ((xs.filter p).map f).sum = sm xs (fun x => if p x = true then f x else 0) := by
  induction xs with
  | nil => rfl
  | cons x xs ih =>
    rw [sm_cons, List.filter_cons]
    split
    · rw [List.map_cons, List.sum_cons, ih]
    · rw [ih]; omega
theorem sm_swap (xs : List α) (ys : List β) (f : α → β → Int) : sm xs (fun x => sm ys fun y => f x y) = sm ys (fun y => sm xs fun x => f x y) := by
  induction xs with
  | nil => simp [sm_nil, sm_zero]
  | cons x xs ih => simp only [sm_cons, ih, sm_add]
theorem sm_mul (c : Int) (xs : List α) (f : α → Int) : sm xs (fun x => c * f x) = c * sm xs f := by
  induction xs with
  | nil => simp [sm_nil]
  | cons x xs ih => simp only [sm_cons, ih, Int.mul_add]
theorem sm_map (g : β → α) (ys : List β) (f : α → Int) : sm (ys.map g) f = sm ys (fun y => f (g y)) := by simp [sm, Function.comp_def]
theorem sm_pick [DecidableEq α] {xs : List α} (nd : xs.Nodup) {a : α} (h : a ∈ xs) (c : Int) : sm xs (fun x => if x = a then c else 0) = c := by
  induction xs with
  | nil => cases h
  | cons x xs ih =>
    rw [sm_cons]
    rw [List.nodup_cons] at nd
    by_cases e : x = a
    · subst e
      rw [if_pos rfl, sm_congr (g := fun _ => 0) (fun y hy => if_neg fun (z : y = x) => nd.1 (z ▸ hy)), sm_zero]; omega
    · rw [if_neg e, ih nd.2 (by cases h with | head => exact absurd rfl e | tail _ h => exact h)]; omega
theorem sm_none [DecidableEq α] {xs : List α} {a : α} (h : a ∉ xs) (c : Int) : sm xs (fun x => if x = a then c else 0) = 0 := by
  rw [sm_congr (g := fun _ => 0) (fun y hy => if_neg fun (z : y = a) => h (z ▸ hy)), sm_zero]
theorem mul_ite (p : Prop) [Decidable p] (a : Int) : (if p then 1 else 0) * a = if p then a else 0 := by split <;> simp

/-! counts: how many groups have a kind -/
def cnt [DecidableEq α] (gs : List (List α)) (n : α) : Int := sm gs fun g => if n ∈ g then 1 else 0
theorem cnt_cons [DecidableEq α] (g : List α) (gs : List (List α)) (n : α) : cnt (g :: gs) n = (if n ∈ g then 1 else 0) + cnt gs n := sm_cons ..
theorem cnt_app [DecidableEq α] (gs hs : List (List α)) (n : α) : cnt (gs ++ hs) n = cnt gs n + cnt hs n := sm_app ..
theorem cnt_nonneg [DecidableEq α] (gs : List (List α)) (n : α) : 0 ≤ cnt gs n := sm_nonneg fun g _ => by split <;> omega
theorem cnt_le [DecidableEq α] (gs : List (List α)) (n : α) : cnt gs n ≤ gs.length := by
  induction gs with
  | nil => exact Int.le_refl _
  | cons g gs ih => rw [cnt_cons, List.length_cons]; split <;> omega
theorem cnt_len [DecidableEq α] (gs : List (List α)) (n : α) : ((gs.filter fun g => decide (n ∈ g)).length : Int) = cnt gs n := by
  induction gs with
  | nil => rfl
  | cons g gs ih =>
    rw [cnt_cons, List.filter_cons]
    by_cases h : n ∈ g
    · rw [if_pos (by simpa using h), if_pos h, List.length_cons]; omega
    · rw [if_neg (by simpa using h), if_neg h]; omega
theorem cnt_count [DecidableEq α] (gs : List (List α)) (n : α) : ((gs.map fun g => decide (n ∈ g)).count true : Int) = cnt gs n := by
  induction gs with
  | nil => rfl
  | cons g gs ih =>
    rw [cnt_cons, List.map_cons, List.count_cons]
    by_cases h : n ∈ g
    · rw [if_pos h, if_pos (by simpa using h)]; omega
    · rw [if_neg h, if_neg (by simpa using h)]; omega
theorem cnt_ite [DecidableEq α] (gs : List (List α)) (n : α) : (gs.map fun g => if decide (n ∈ g) = true then (1 : Int) else 0).sum = cnt gs n := by
  unfold cnt sm; congr 1; apply List.map_congr_left; intro g _; by_cases h : n ∈ g <;> simp [h]
theorem cnt_zero [DecidableEq α] {gs : List (List α)} {n : α} : cnt gs n = 0 ↔ ∀ g ∈ gs, n ∉ g := by
  induction gs with
  | nil => simp [cnt, sm_nil]
  | cons g gs ih =>
    rw [cnt_cons]
    have := cnt_nonneg gs n
    constructor
    · intro h x hx
      by_cases hg : n ∈ g
      · rw [if_pos hg] at h; omega
      · rw [if_neg hg] at h
        rcases List.mem_cons.mp hx with rfl | hx
        · exact hg
        · exact ih.mp (by omega) x hx
    · intro h
      rw [if_neg (h g List.mem_cons_self), ih.mpr fun x hx => h x (List.mem_cons_of_mem _ hx)]; rfl
theorem cnt_pos [DecidableEq α] {gs : List (List α)} {n : α} : 1 ≤ cnt gs n ↔ ∃ g ∈ gs, n ∈ g := by
  have := cnt_nonneg gs n
  constructor
  · intro h
    apply Classical.byContradiction
    intro z
    have : cnt gs n = 0 := cnt_zero.mpr fun g hg hn => z ⟨g, hg, hn⟩
    omega
  · rintro ⟨g, hg, hn⟩
    apply Classical.byContradiction
    intro z
    exact cnt_zero.mp (by omega) g hg hn
theorem cnt_sub [DecidableEq α] {gs hs : List (List α)} (h : gs.Sublist hs) (n : α) : cnt gs n ≤ cnt hs n := by
  induction h with
  | slnil => exact Int.le_refl _
  | cons a _ ih => rw [cnt_cons]; split <;> omega
  | cons_cons a _ ih => rw [cnt_cons, cnt_cons]; omega
theorem cnt_perm [DecidableEq α] {gs hs : List (List α)} (h : gs.Perm hs) (n : α) : cnt gs n = cnt hs n := by
  induction h with
  | nil => rfl
  | cons x _ ih => rw [cnt_cons, cnt_cons, ih]
  | swap x y l => rw [cnt_cons, cnt_cons, cnt_cons, cnt_cons]; omega
  | trans _ _ a b => rw [a, b]
theorem cnt_uniq [DecidableEq α] {gs : List (List α)} {n : α} (h : cnt gs n = 1) {g k : List α} (hg : g ∈ gs) (hk : k ∈ gs) (gn : n ∈ g) (kn : n ∈ k) : g = k := by
  induction gs with
  | nil => cases hg
  | cons x xs ih =>
    rw [cnt_cons] at h
    have h0 := cnt_nonneg xs n
    by_cases e : n ∈ x
    · rw [if_pos e] at h
      have h1 : cnt xs n = 0 := by omega
      rw [cnt_zero] at h1
      rcases List.mem_cons.mp hg with rfl | hg
      · rcases List.mem_cons.mp hk with rfl | hk
        · rfl
        · exact absurd kn (h1 k hk)
      · exact absurd gn (h1 g hg)
    · rw [if_neg e] at h
      rcases List.mem_cons.mp hg with rfl | hg
      · exact absurd gn e
      · rcases List.mem_cons.mp hk with rfl | hk
        · exact absurd kn e
        · exact ih (by omega) hg hk
/-- one group alone of a set without doubles has it -/
theorem cnt_one [DecidableEq α] {gs : List (List α)} (nd : gs.Nodup) {n : α} {g : List α} (hg : g ∈ gs) (gn : n ∈ g) : cnt gs n = 1 ↔ ∀ k ∈ gs, k ≠ g → n ∉ k := by
  constructor
  · intro h k hk ne kn
    exact ne (cnt_uniq h hk hg kn gn)
  · intro h
    induction gs with
    | nil => cases hg
    | cons x xs ih =>
      rw [List.nodup_cons] at nd
      rw [cnt_cons]
      rcases List.mem_cons.mp hg with rfl | hg
      · rw [if_pos gn, cnt_zero.mpr fun k hk => h k (List.mem_cons_of_mem _ hk) fun e => nd.1 (e ▸ hk)]; rfl
      · rw [if_neg (h x List.mem_cons_self fun e => nd.1 (e ▸ hg)), ih nd.2 hg fun k hk => h k (List.mem_cons_of_mem _ hk)]; rfl
/-- the loads of groups, together: each kind as often as counted -/
theorem sm_cnt [DecidableEq α] (gs : List (List α)) (zs : List β) (k : β → α) (w : β → Int) : sm gs (fun g => sm zs fun z => if k z ∈ g then w z else 0) = sm zs fun z => cnt gs (k z) * w z := by
  rw [sm_swap]
  refine sm_congr fun z _ => ?_
  unfold cnt
  rw [Int.mul_comm, ← sm_mul]
  refine sm_congr fun g _ => ?_
  split <;> simp

/-! open sets -/
def Opn [DecidableEq α] (gs : List (List α)) : Prop := ∀ g ∈ gs, ∃ n ∈ g, cnt gs n = 1
theorem Opn.sub [DecidableEq α] {gs hs : List (List α)} (h : Opn hs) (s : gs.Sublist hs) : Opn gs := fun g hg => by
  obtain ⟨n, hn, e⟩ := h g (s.subset hg)
  refine ⟨n, hn, ?_⟩
  have h1 := cnt_sub s n
  have h2 : 1 ≤ cnt gs n := cnt_pos.mpr ⟨g, hg, hn⟩
  omega
theorem opn_nil [DecidableEq α] : Opn ([] : List (List α)) := fun g h => nomatch h
theorem opn_perm [DecidableEq α] {gs hs : List (List α)} (p : gs.Perm hs) (h : Opn gs) : Opn hs := fun g hg => by
  obtain ⟨n, hn, e⟩ := h g (p.mem_iff.mpr hg)
  exact ⟨n, hn, by rw [← cnt_perm p]; exact e⟩

/-! all sublists -/
def subs (xs : List α) : List (List α) := xs.foldl (fun l x => l ++ l.map fun o => o ++ [x]) [[]]
theorem subs_snoc (xs : List α) (x : α) : subs (xs ++ [x]) = subs xs ++ (subs xs).map fun o => o ++ [x] := by simp [subs, List.foldl_append]
theorem sublist_snoc {o xs : List α} {x : α} (h : o.Sublist (xs ++ [x])) : o.Sublist xs ∨ ∃ p, o = p ++ [x] ∧ p.Sublist xs := by
  rw [List.sublist_append_iff] at h
  obtain ⟨a, b, rfl, h1, h2⟩ := h
  rcases List.sublist_cons_iff.mp h2 with h3 | ⟨r, rfl, h3⟩
  · rw [List.sublist_nil] at h3; subst h3; exact .inl (by simpa using h1)
  · rw [List.sublist_nil] at h3; subst h3; exact .inr ⟨a, rfl, h1⟩
theorem snocInd {P : List α → Prop} (h0 : P []) (h1 : ∀ xs x, P xs → P (xs ++ [x])) (xs : List α) : P xs := by
  have : ∀ n (xs : List α), xs.length = n → P xs := by
    intro n
    induction n with
    | zero => intro xs h; rw [List.length_eq_zero_iff.mp h]; exact h0
    | succ n ih =>
      intro xs h
      rcases List.eq_nil_or_concat xs with rfl | ⟨ys, y, rfl⟩
      · exact h0
      · rw [List.concat_eq_append] at h ⊢
        exact h1 ys y (ih ys (by simpa using h))
  exact this _ xs rfl
theorem mem_subs {o xs : List α} : o ∈ subs xs ↔ o.Sublist xs := by
  induction xs using snocInd generalizing o with
  | h0 => simp [subs]
  | h1 xs x ih =>
    rw [subs_snoc, List.mem_append, ih, List.mem_map]
    constructor
    · rintro (h | ⟨p, hp, rfl⟩)
      · exact h.trans (List.sublist_append_left _ _)
      · exact (ih.mp hp).append (List.Sublist.refl _)
    · intro h
      rcases sublist_snoc h with h | ⟨p, rfl, hp⟩
      · exact .inl h
      · exact .inr ⟨p, ih.mpr hp, rfl⟩
theorem nodup_map_inj {f : α → β} (hf : ∀ a b, f a = f b → a = b) {xs : List α} (h : xs.Nodup) : (xs.map f).Nodup := List.pairwise_map.mpr (h.imp fun ne e => ne (hf _ _ e))
theorem snoc_inj {a b : List α} {x : α} (h : a ++ [x] = b ++ [x]) : a = b := List.append_cancel_right h
theorem nodup_subs {xs : List α} (nd : xs.Nodup) : (subs xs).Nodup := by
  induction xs using snocInd with
  | h0 => simp [subs]
  | h1 xs x ih =>
    rw [List.nodup_append] at nd
    rw [subs_snoc, List.nodup_append]
    refine ⟨ih nd.1, nodup_map_inj (fun a b => snoc_inj) (ih nd.1), fun a ha b hb e => ?_⟩
    subst e
    obtain ⟨p, hp, rfl⟩ := List.mem_map.mp hb
    have := (mem_subs.mp ha).subset (by simp : x ∈ p ++ [x])
    exact nd.2.2 x this x (by simp) rfl
theorem len_subs (xs : List α) : (subs xs).length = 2 ^ xs.length := by
  induction xs using snocInd with
  | h0 => rfl
  | h1 xs x ih => rw [subs_snoc]; simp [ih, Nat.pow_succ]; omega
/-- sets grown one by one, only those that fit -/
def opens (p : List α → Bool) (xs : List α) : List (List α) := xs.foldl (fun l x => l ++ (l.map fun o => o ++ [x]).filter p) [[]]
theorem opens_snoc (p : List α → Bool) (xs : List α) (x : α) : opens p (xs ++ [x]) = opens p xs ++ ((opens p xs).map fun o => o ++ [x]).filter p := by simp [opens, List.foldl_append]
theorem mem_opens {p : List α → Bool} (p0 : p [] = true) (hp : ∀ o x, p (o ++ [x]) = true → p o = true) {o xs : List α} : o ∈ opens p xs ↔ o.Sublist xs ∧ p o = true := by
  induction xs using snocInd generalizing o with
  | h0 =>
    simp [opens]
    rintro rfl
    exact p0
  | h1 xs x ih =>
    rw [opens_snoc, List.mem_append, ih, List.mem_filter, List.mem_map]
    constructor
    · rintro (⟨h, q⟩ | ⟨⟨r, hr, rfl⟩, q⟩)
      · exact ⟨h.trans (List.sublist_append_left _ _), q⟩
      · exact ⟨(ih.mp hr).1.append (List.Sublist.refl _), q⟩
    · rintro ⟨h, q⟩
      rcases sublist_snoc h with h | ⟨r, rfl, hr⟩
      · exact .inl ⟨h, q⟩
      · exact .inr ⟨⟨r, ih.mpr ⟨hr, hp _ _ q⟩, rfl⟩, q⟩
theorem opens_sub (p : List α → Bool) (xs : List α) : (opens p xs).Sublist (subs xs) := by
  induction xs using snocInd with
  | h0 => exact List.Sublist.refl _
  | h1 xs x ih =>
    rw [opens_snoc, subs_snoc]
    exact ih.append (List.filter_sublist.trans (ih.map _))
theorem nodup_opens {p : List α → Bool} {xs : List α} (nd : xs.Nodup) : (opens p xs).Nodup := (nodup_subs nd).sublist (opens_sub p xs)

/-! covers -/
theorem all_cov [DecidableEq α] {gs : List (List α)} {ns : List α} : ((ns.map fun n => (gs.map fun g => decide (n ∈ g)).any id).all id) = true ↔ ∀ n ∈ ns, ∃ g ∈ gs, n ∈ g := by
  simp [List.all_eq_true, List.any_eq_true]
theorem nil_cov [DecidableEq α] {gs : List (List α)} {ns : List α} : decide ((ns.filter fun n => decide ((gs.filter fun g => decide (n ∈ g)).map (fun _ => (1 : Int)) = [])).map (fun _ => (1 : Int)) = []) = true ↔ ∀ n ∈ ns, ∃ g ∈ gs, n ∈ g := by
  simp [List.filter_eq_nil_iff]
end
end DL

namespace DL
/-! lots as functions on the kinds -/
section
variable {α β γ : Type}
theorem as_map [DecidableEq α] [Inhabited β] : ∀ {K : List α} {l : List β}, K.Nodup → K.length = l.length → ∃ f : α → β, l = K.map f
  | [], [], _, _ => ⟨fun _ => default, rfl⟩
  | k :: K, x :: l, nd, h => by
    rw [List.nodup_cons] at nd
    obtain ⟨f, e⟩ := as_map (l := l) nd.2 (by simpa using h)
    refine ⟨fun a => if a = k then x else f a, ?_⟩
    rw [List.map_cons, if_pos rfl, e]
    congr 1
    exact List.map_congr_left fun a ha => by rw [if_neg fun (z : a = k) => nd.1 (z ▸ ha)]
theorem zipM (K : List α) (f : α → β) : K.zip (K.map f) = K.map fun n => (n, f n) := by
  induction K with
  | nil => rfl
  | cons k K ih => simp [ih]
theorem zipMM {δ : Type} (K : List α) (f : α → β) (g : α → γ) : (K.map f).zip (K.map g) = K.map fun n => (f n, g n) := by
  induction K with
  | nil => rfl
  | cons k K ih => simp [ih]
theorem mapM {δ : Type} (K : List α) (f : α → β) (g : β → δ) : (K.map f).map g = K.map fun n => g (f n) := by simp [Function.comp_def]
theorem filM (K : List α) (f : α → β) (p : β → Bool) : (K.map f).filter p = (K.filter fun n => p (f n)).map f := by simp [List.filter_map, Function.comp_def]
theorem mapId (K : List α) : K.map (fun n => n) = K := by simp
theorem nilM {K : List α} {f : α → β} : K.map f = [] ↔ K = [] := List.map_eq_nil_iff
/-- the load of a group -/
def ld [DecidableEq α] (K : List α) (l : α → Int) (g : List α) : Int := sm K fun n => if n ∈ g then l n else 0
theorem ld_nonneg [DecidableEq α] {K : List α} {l : α → Int} (h : ∀ n ∈ K, 0 ≤ l n) (g : List α) : 0 ≤ ld K l g := sm_nonneg fun n hn => by
  split
  · exact h n hn
  · omega
theorem ld_le [DecidableEq α] {K : List α} {l o : α → Int} (h : ∀ n ∈ K, l n ≤ o n) (g : List α) : ld K l g ≤ ld K o g := sm_le fun n hn => by
  split
  · exact h n hn
  · omega
theorem ld_map [DecidableEq α] (K : List α) (l : α → Int) (g : List α) : (((K.map fun n => (n, l n)).filter fun z => decide (z.1 ∈ g)).map fun z => z.2).sum = ld K l g := by
  rw [sm_filter, sm_map]
  exact sm_congr fun n _ => by simp
/-- by a group's own names -/
theorem ld_own [DecidableEq α] {K : List α} (nd : K.Nodup) {g : List α} (s : g.Sublist K) (l : α → Int) : (g.map l).sum = ld K l g := by
  show sm g l = _
  unfold ld
  induction s with
  | slnil => rfl
  | cons a s ih =>
    rw [List.nodup_cons] at nd
    rw [sm_cons, if_neg fun h => nd.1 (s.subset h), ih nd.2]; omega
  | cons_cons a s ih =>
    rw [List.nodup_cons] at nd
    rw [sm_cons, sm_cons, if_pos List.mem_cons_self, ih nd.2]
    congr 1
    refine sm_congr fun n hn => ?_
    have : n ≠ a := fun e => nd.1 (e ▸ hn)
    simp [this]
theorem ld_cnt [DecidableEq α] (S : List (List α)) (K : List α) (l : α → Int) : sm S (ld K l) = sm K fun n => cnt S n * l n := sm_cnt S K (fun n => n) l
/-- full groups with all that is more bound it -/
theorem cover_ineq [DecidableEq α] {K : List α} {S : List (List α)} {l o : α → Int} (h1 : ∀ n ∈ K, l n < o n → ∃ g ∈ S, n ∈ g) (h2 : ∀ g ∈ S, ld K o g ≤ ld K l g) (h3 : ∀ n ∈ K, 0 ≤ l n) (h4 : ∀ n ∈ K, 0 ≤ o n) : sm K o ≤ sm K fun n => l n * max 1 (cnt S n) := by
  have a1 : sm K o ≤ sm K fun n => cnt S n * o n + (if cnt S n = 0 then l n else 0) := sm_le fun n hn => by
    have := h4 n hn
    have c0 := cnt_nonneg S n
    by_cases c : cnt S n = 0
    · rw [if_pos c, c]
      have : ¬ l n < o n := fun q => by
        obtain ⟨g, hg, gn⟩ := h1 n hn q
        exact cnt_zero.mp c g hg gn
      omega
    · rw [if_neg c]
      have : o n * 1 ≤ o n * cnt S n := Int.mul_le_mul_of_nonneg_left (by omega) this
      rw [Int.mul_comm (cnt S n)]
      omega
  have a2 : (sm K fun n => l n * max 1 (cnt S n)) = sm K fun n => cnt S n * l n + (if cnt S n = 0 then l n else 0) := sm_congr fun n hn => by
    have c0 := cnt_nonneg S n
    by_cases c : cnt S n = 0
    · rw [if_pos c, c, show max (1 : Int) 0 = 1 from rfl]; omega
    · rw [if_neg c, Int.max_eq_right (by omega), Int.mul_comm]; omega
  rw [a2]
  refine Int.le_trans a1 ?_
  rw [sm_add, sm_add, ← ld_cnt, ← ld_cnt]
  have := sm_le (xs := S) (f := ld K o) (g := ld K l) h2
  omega
/-- the greatest beside a lot: what is told of an open set -/
theorem beside_sum [DecidableEq α] {K : List α} (nd : K.Nodup) {S : List (List α)} {l : α → Int} {f : List α → α} (hf : ∀ g ∈ S, f g ∈ K) :
    (sm K fun n => (if cnt S n = 0 then l n else 0) + sm S fun g => if n = f g then ld K l g else 0) = sm K fun n => l n * max 1 (cnt S n) := by
  rw [sm_add, sm_swap]
  rw [sm_congr (xs := S) (g := ld K l) fun g hg => sm_pick nd (hf g hg) _]
  rw [ld_cnt, ← sm_add]
  refine sm_congr fun n hn => ?_
  have c0 := cnt_nonneg S n
  by_cases c : cnt S n = 0
  · rw [if_pos c, c, show max (1 : Int) 0 = 1 from rfl]; omega
  · rw [if_neg c, Int.max_eq_right (by omega), Int.mul_comm]; omega
theorem beside_load [DecidableEq α] {K : List α} (nd : K.Nodup) {S : List (List α)} (ndS : S.Nodup) {l : α → Int} {f : List α → α} (hf : ∀ g ∈ S, f g ∈ K ∧ f g ∈ g ∧ cnt S (f g) = 1) {g : List α} (hg : g ∈ S) :
    ld K (fun n => (if cnt S n = 0 then l n else 0) + sm S fun g => if n = f g then ld K l g else 0) g = ld K l g := by
  show sm K (fun n => if n ∈ g then (if cnt S n = 0 then l n else 0) + sm S fun g => if n = f g then ld K l g else 0 else 0) = _
  rw [← sm_pick nd (hf g hg).1 (ld K l g)]
  refine sm_congr fun n hn => ?_
  by_cases e : n = f g
  · rw [if_pos e, if_pos (e ▸ (hf g hg).2.1), if_neg (by rw [e, (hf g hg).2.2]; decide)]
    rw [sm_congr (g := fun k => if k = g then ld K l g else 0), sm_pick ndS hg]
    · omega
    · intro k hk
      by_cases ek : k = g
      · rw [if_pos ek, if_pos (by rw [ek]; exact e), ek]
      · rw [if_neg ek, if_neg]
        intro z
        exact ek (cnt_uniq (hf g hg).2.2 hk hg (by rw [← e, z]; exact (hf k hk).2.1) (hf g hg).2.1)
  · rw [if_neg e]
    by_cases ng : n ∈ g
    · rw [if_pos ng, if_neg]
      · rw [sm_congr (g := fun _ => 0), sm_zero]; rfl
        intro k hk
        rw [if_neg]
        intro z
        have := cnt_uniq (hf k hk).2.2 hk hg (hf k hk).2.1 (by rw [← z]; exact ng)
        subst this
        exact e z
      · have := cnt_pos.mpr ⟨g, hg, ng⟩; omega
    · rw [if_neg ng]
/-! a set made smaller as long as it covers -/
def shrink [DecidableEq α] (q : List (List α) → Bool) (s : List (List α)) (gs : List (List α)) : List (List α) := gs.foldl (fun f g => if q (f.filter fun o => !decide (o = g)) = true then f.filter fun o => !decide (o = g) else f) s
theorem shrink_cons [DecidableEq α] (q : List (List α) → Bool) (s : List (List α)) (g : List α) (gs : List (List α)) : shrink q s (g :: gs) = shrink q (if q (s.filter fun o => !decide (o = g)) = true then s.filter fun o => !decide (o = g) else s) gs := rfl
theorem shrink_sub [DecidableEq α] (q : List (List α) → Bool) : ∀ (gs s : List (List α)), (shrink q s gs).Sublist s
  | [], s => List.Sublist.refl _
  | g :: gs, s => by
    rw [shrink_cons]
    refine (shrink_sub q gs _).trans ?_
    split
    · exact List.filter_sublist
    · exact List.Sublist.refl _
theorem shrink_q [DecidableEq α] (q : List (List α) → Bool) : ∀ (gs s : List (List α)), q s = true → q (shrink q s gs) = true
  | [], s, h => h
  | g :: gs, s, h => by
    rw [shrink_cons]
    apply shrink_q
    split
    · assumption
    · exact h
/-- what is left is needed, where q grows with the set -/
theorem shrink_need [DecidableEq α] (q : List (List α) → Bool) (mono : ∀ a b : List (List α), a.Sublist b → q a = true → q b = true) : ∀ (gs s : List (List α)), ∀ g ∈ gs, g ∈ shrink q s gs → q ((shrink q s gs).filter fun o => !decide (o = g)) = false
  | [], s => fun g h => nomatch h
  | k :: gs, s => fun g hg h => by
    rw [shrink_cons] at h ⊢
    rcases List.mem_cons.mp hg with rfl | hg
    · by_cases c : q (s.filter fun o => !decide (o = g)) = true
      · rw [if_pos c] at h
        have := (shrink_sub q gs _).subset h
        simp at this
      · rw [if_neg c] at h ⊢
        cases e : q ((shrink q s gs).filter fun o => !decide (o = g)) with
        | false => rfl
        | true => exact absurd (mono _ _ ((shrink_sub q gs s).filter _) e) c
    · exact shrink_need q mono gs _ g hg h
theorem shrink_opn [DecidableEq α] {ns : List α} {q : List (List α) → Bool} (hq : ∀ gs, q gs = true ↔ ∀ n ∈ ns, ∃ g ∈ gs, n ∈ g) {s : List (List α)} (nd : s.Nodup) (h : q s = true) : Opn (shrink q s s) := fun g hg => by
  have sub := shrink_sub q s s
  have h1 := shrink_need q (fun a b ab qa => (hq b).mpr fun n hn => by
    obtain ⟨g, hg, gn⟩ := (hq a).mp qa n hn
    exact ⟨g, ab.subset hg, gn⟩) s s g (sub.subset hg) hg
  have h2 := (hq _).mp (shrink_q q s s h)
  have : ¬ ∀ n ∈ ns, ∃ k ∈ (shrink q s s).filter fun o => !decide (o = g), n ∈ k := fun z => by rw [(hq _).mpr z] at h1; cases h1
  apply Classical.byContradiction
  intro z
  apply this
  intro n hn
  obtain ⟨k, hk, kn⟩ := h2 n hn
  by_cases e : k = g
  · subst e
    apply Classical.byContradiction
    intro y
    apply z
    refine ⟨n, kn, (cnt_one (nd.sublist sub) hg kn).mpr fun m hm ne mn => y ⟨m, ?_, mn⟩⟩
    simp [hm, ne]
  · exact ⟨k, by simp [hk, e], kn⟩
end
end DL

namespace DL
open PySem
/-! plain facts over the typed words: cutT, enumT, lookD, setS, maxL; drawn rules -/
section
variable {α β : Type}
theorem cut_pre (a b : List α) : cutT (a ++ b) none (some (a.length : Int)) = a := by
  have : HT.sIx (a ++ b).length (a ++ b).length (some (a.length : Int)) = a.length := by
    simp only [HT.sIx]; rw [if_neg (by omega)]; simp
  unfold cutT
  rw [this]
  simp [HT.sIx]
theorem cut_post (a b : List α) (x : α) : cutT (a ++ x :: b) (some ((a.length : Int) + 1)) none = b := by
  have : HT.sIx (a ++ x :: b).length 0 (some ((a.length : Int) + 1)) = a.length + 1 := by
    simp only [HT.sIx]; rw [if_neg (by omega)]; simp
  simp only [cutT, this]; simp only [HT.sIx, List.length_append, List.length_cons]
  rw [show (a ++ x :: b).drop (a.length + 1) = b by simp]
  exact List.take_of_length_le (by omega)
theorem cut_sub (xs : List α) (lo hi : Option Int) : (cutT xs lo hi).Sublist xs := (List.take_sublist _ _).trans (List.drop_sublist _ _)
theorem enum_mem {xs : List α} {z : Int × α} : z ∈ enumT xs ↔ ∃ pre post, xs = pre ++ z.2 :: post ∧ z.1 = (pre.length : Int) := by
  unfold enumT
  rw [List.mem_map]
  constructor
  · rintro ⟨⟨x, i⟩, h, rfl⟩
    have := List.mem_zipIdx_iff_getElem?.mp h
    simp at this
    obtain ⟨hl, e⟩ := List.getElem?_eq_some_iff.mp this
    refine ⟨xs.take i, xs.drop (i + 1), ?_, ?_⟩
    · subst e; simp
    · simp; omega
  · rintro ⟨pre, post, h1, h2⟩
    refine ⟨(z.2, pre.length), List.mem_zipIdx_iff_getElem?.mpr ?_, ?_⟩
    · subst h1; simp
    · exact Prod.ext h2.symm rfl
theorem find_all {xs : List α} {P : α → Bool} : ((xs.findSome? fun z => if P z = true then some false else none).getD true = true) ↔ ∀ z ∈ xs, P z = false := by
  induction xs with
  | nil => simp
  | cons x xs ih =>
    rw [List.findSome?_cons]
    cases h : P x with
    | true => simp [h]
    | false => simp only [h, Bool.false_eq_true, if_false, ih, List.mem_cons, forall_eq_or_imp, true_and]
theorem look_map (d : β) {K : List Str} (f : Str → β) {n : Str} (h : n ∈ K) : lookD d (K.map fun n => (n, f n)) n = f n := by
  unfold lookD
  induction K with
  | nil => cases h
  | cons k K ih =>
    rw [List.map_cons, List.lookup_cons]
    by_cases e : n = k
    · subst e; simp
    · have : (n == k) = false := by simpa using e
      rw [this]
      exact ih (by cases h with | head => exact absurd rfl e | tail _ h => exact h)
theorem look_put (d : β) (t : List (Str × β)) (k : Str) (v : β) (n : Str) (h : k ∈ t.map (·.1)) : lookD d (setS t k v) n = if n = k then v else lookD d t n := by
  unfold lookD setS
  induction t with
  | nil => cases h
  | cons p t ih =>
    rw [List.map_cons, List.lookup_cons, List.lookup_cons]
    by_cases e : p.1 = k
    · rw [if_pos e]
      by_cases en : n = k
      · subst en; simp [e]
      · have : (n == p.1) = false := by rw [e]; simpa using en
        rw [this]
        simp only [if_neg en]
        by_cases hk : k ∈ t.map (·.1)
        · rw [ih hk, if_neg en]
        · have : (t.map fun q => if q.1 = k then (q.1, v) else q) = t := by
            conv => rhs; rw [← List.map_id t]
            refine List.map_congr_left fun q hq => ?_
            rw [if_neg]
            · rfl
            · intro z; exact hk (z ▸ List.mem_map_of_mem hq)
          rw [this]
    · rw [if_neg e]
      have hk : k ∈ t.map (·.1) := by
        rcases List.mem_cons.mp h with h | h
        · exact absurd h.symm e
        · exact h
      by_cases en : n = p.1
      · have : (n == p.1) = true := by simpa using en
        rw [this]
        simp only []
        rw [if_neg]
        · exact fun z => e (en ▸ z)
      · have : (n == p.1) = false := by simpa using en
        rw [this]
        exact ih hk
/-- stores of values by keys that are there and unlike -/
theorem look_puts (d : β) {γ : Type} (k : γ → Str) (v : γ → β) : ∀ (zs : List γ) (t : List (Str × β)) (n : Str), (∀ z ∈ zs, k z ∈ t.map (·.1)) → (∀ z ∈ zs, ∀ y ∈ zs, k z = k y → v z = v y) →
    (∀ z ∈ zs, k z = n → lookD d (zs.foldl (fun t z => setS t (k z) (v z)) t) n = v z) ∧ ((∀ z ∈ zs, k z ≠ n) → lookD d (zs.foldl (fun t z => setS t (k z) (v z)) t) n = lookD d t n)
  | [], t, n, _, _ => And.intro (fun z h => nomatch h) (fun _ => rfl)
  | x :: zs, t, n, hk, hv => by
    rw [List.foldl_cons]
    have ih := look_puts d k v zs (setS t (k x) (v x)) n (fun z hz => by rw [setS_keys]; exact hk z (List.mem_cons_of_mem _ hz)) (fun z hz y hy => hv z (List.mem_cons_of_mem _ hz) y (List.mem_cons_of_mem _ hy))
    by_cases hn : ∃ z ∈ zs, k z = n
    · obtain ⟨z, hz, e⟩ := hn
      have h1 := ih.1 z hz e
      refine ⟨fun y hy ey => ?_, fun h => absurd e (h z (List.mem_cons_of_mem _ hz))⟩
      rw [h1]
      exact hv z (List.mem_cons_of_mem _ hz) y hy (e.trans ey.symm)
    · have h2 := ih.2 fun z hz e => hn ⟨z, hz, e⟩
      rw [look_put d t _ _ _ (hk x List.mem_cons_self)] at h2
      refine ⟨fun y hy ey => ?_, fun h => ?_⟩
      · rcases List.mem_cons.mp hy with rfl | hy
        · rw [h2, if_pos ey.symm]
        · exact absurd ⟨y, hy, ey⟩ hn
      · rw [h2, if_neg fun e => h x List.mem_cons_self e.symm]
theorem maxT_ge {α : Type} {lt : α → α → Bool} (T : TotL lt) : ∀ (xs : List α) (x : α), ∀ y ∈ x :: xs, lt (maxT lt x xs) y = false
  | [], x => fun y hy => by simp at hy; subst hy; exact T.irr _
  | z :: zs, x => by
    have ih := maxT_ge T zs (if lt x z = true then z else x)
    rw [show maxT lt x (z :: zs) = maxT lt (if lt x z = true then z else x) zs from rfl]
    have h0 := ih _ List.mem_cons_self
    intro y hy
    rcases List.mem_cons.mp hy with e | hy
    · subst e
      split at h0
      · rename_i q
        rw [if_pos q]
        exact T.letr (T.asym q) h0
      · rename_i q
        rw [if_neg q]; exact h0
    · rcases List.mem_cons.mp hy with e | hy
      · subst e
        split at h0
        · rename_i q
          rw [if_pos q]; exact h0
        · rename_i q
          rw [if_neg q]
          exact T.letr (by simpa using q) h0
      · exact ih y (List.mem_cons_of_mem _ hy)
theorem maxI_ge {xs : List Int} {d y : Int} (h : y ∈ xs) : y ≤ maxL ltI d xs := by
  cases xs with
  | nil => cases h
  | cons x xs =>
    have := maxT_ge totI xs x y h
    simp only [ltI, decide_eq_false_iff_not] at this
    show y ≤ maxT ltI x xs
    omega
end
/-! drawn rules -/
theorem KA_nodup : KA.Nodup := by decide +kernel
theorem GoodRules.nd {r : List Str × List (List Str)} (h : GoodRules r) : r.1.Nodup := by
  rcases h.kinds with e | e | e <;> rw [e] <;> exact KA_nodup.sublist (List.take_sublist _ _)
theorem GoodRules.len {r : List Str × List (List Str)} (h : GoodRules r) : 2 ≤ r.1.length ∧ r.1.length ≤ 4 := by
  rcases h.kinds with e | e | e <;> rw [e] <;> decide
theorem GoodRules.ris {r : List Str × List (List Str)} (h : GoodRules r) : Ris (ltL ltN) r.2 := h.asc.ris totN.lst h.nodup
theorem GoodRules.sub {r : List Str × List (List Str)} (h : GoodRules r) {g : List Str} (hg : g ∈ r.2) : g.Sublist r.1 := (h.grp g hg).2
theorem GoodRules.mem {r : List Str × List (List Str)} (h : GoodRules r) : ∀ g ∈ r.2, ∀ n ∈ g, n ∈ r.1 := fun g hg n hn => (h.sub hg).subset hn
theorem GoodRules.gnd {r : List Str × List (List Str)} (h : GoodRules r) {g : List Str} (hg : g ∈ r.2) : g.Nodup := h.nd.sublist (h.sub hg)
end DL

namespace K
open PySem PySem.Spec PyProof.Rows L2 DL
def top (i : Nat) : Stmt := PySem.Challenge.pw_crosslimits_k77_across_covers_open_group.main.body.getD i (.Pass ⟨0, 0, 0, 0⟩)
abbrev s_is_number : Stmt := top 1
abbrev s_is_rising : Stmt := top 2
abbrev s_tupled : Stmt := top 3
abbrev s_are_numbers : Stmt := top 5
abbrev s_is_limits : Stmt := top 6
abbrev s_is_demands : Stmt := top 7
abbrev s_own_kinds : Stmt := top 9
abbrev s_is_group_set : Stmt := top 10
abbrev s_is_open : Stmt := top 11
abbrev s_open_sets : Stmt := top 12
abbrev s_all_open : Stmt := top 13
abbrev s_counted : Stmt := top 16
abbrev s_cover_sum : Stmt := top 17
abbrev s_greatest_beside : Stmt := top 18
abbrev s_load_of : Stmt := top 19
abbrev s_loads_of : Stmt := top 20
abbrev s_beside_paper : Stmt := top 21
abbrev s_keeps_all : Stmt := top 22
abbrev s_filled : Stmt := top 23
abbrev s_lacking : Stmt := top 24
abbrev s_is_covered : Stmt := top 25
abbrev s_is_beside : Stmt := top 26
abbrev s_full_cover : Stmt := top 27
abbrev s_is_full_cover : Stmt := top 28
abbrev s_loads : Stmt := top 30
abbrev s_left_in : Stmt := top 31
abbrev s_keeps : Stmt := top 32
abbrev s_full_groups : Stmt := top 33
abbrev s_is_shut : Stmt := top 35
abbrev s_is_end : Stmt := top 36
abbrev s_law_box : Stmt := top 38
abbrev s_law_take : Stmt := top 39
abbrev s_law_cells : Stmt := top 40
abbrev s_law_soft : Stmt := top 41
abbrev s_law_same : Stmt := top 42
abbrev s_law_rules : Stmt := top 43
abbrev s_law_numbers : Stmt := top 44
abbrev s_law_loads : Stmt := top 45
abbrev s_law_keeps : Stmt := top 46
abbrev s_law_full : Stmt := top 47
abbrev s_law_sets : Stmt := top 48
abbrev s_law_is_open : Stmt := top 49
abbrev s_law_cover : Stmt := top 50
abbrev s_law_is_cover : Stmt := top 51
abbrev s_law : Stmt := top 52
abbrev FnP (K : PySem.W.Frag) (x : Str) (st : Stmt) (f : Addr) (fd : FuncData) : Prop := FunD K x x (defArgs st) (defBody st) (defScope st) [] [] f fd
variable {Pr : Program} {w : World} {K : PySem.W.Frag} {mg : Str → Option Value} {base : Heap} {f : Addr} {fd : FuncData}
theorem sc_law_take : FnScope ["urn", "below", "drawn", "once", "far", "twice"] ["urn", "below"] (defScope s_law_take) := ⟨rfl, rfl, rfl, by decide +kernel, rfl, by decide +kernel, by decide +kernel⟩
theorem ok_law_take (F : FnP K "_law_take" s_law_take f fd) (m_int : mg "int" = none) : FnOk Pr w K mg base CX0 1 f fd ["urn", "below"] (spU 1 P_law_take) := by
  refine fn_okU F sc_law_take (fun ds d h => by obtain ⟨n, r, rfl, _⟩ := h; rfl) (by decide) fun cdv A outer s H E hr g m ds d0 hb hp => ?_
  obtain ⟨n, r, rfl, h1, h2, _⟩ := hp
  have fin : ∀ r : Int, 0 ≤ r → r < n → flatD (.int r) = true ∧ P_law_take [.int n] (.int r) := fun r a b => ⟨rfl, n, r, rfl, h1, h2, a, b, rfl⟩
  have md : ∀ x : Int, 0 ≤ x % n ∧ x % n < n := fun x => ⟨Int.emod_nonneg _ (by omega), Int.emod_lt_of_pos _ h1⟩
  refine st_cons (N1 := fun G => G = [.urn m, .val (.int n), .no, .no, .no, .no]) (s_ifJ (c := 0) (i := 0) (m := m) (PB := fun _ => True) (tj_gt (c1 := 0) (c2 := 0) (ij_urn (n := 0) (by decide)) (ij_pure (Q := fun _ => True) (fun _ => ev_int) trivial) _ (fun _ _ _ _ => trivial)) rfl (OneU.of rfl) (by omega) (fun _ => ?_) fun _ => st_nil rfl) fun G e => ?_
  · refine st_setJ (i := 0) (c := 0) (m := m) (k := 2) (P := fun d => ∃ r : Int, (0 ≤ r ∧ r < n) ∧ d = .int r) (ij_mod (c1 := 0) (c2 := 0) (Q1 := fun _ => True) (Q2 := fun y => y = n) (ej_callT1 cr_int m_int (ij_urn (n := 0) (by decide)) (fun d ⟨x, _, e⟩ => ⟨.int x, .inl ⟨x, by rw [e], rfl⟩, x, trivial, rfl⟩)) (ij_pure (fun _ => ev_nm (d := .int n) 1) rfl) (fun x y _ e => by subst e; exact ⟨h1, md x⟩)) g rfl (OneU.of rfl) (by omega) fun d ⟨r, hr, e⟩ => ?_
    subst e
    refine st_to (s_urn0 (i := 0) (c := 0) (m := m) (P := fun _ => True) (ij_div (c1 := 0) (c2 := 0) (Q2 := fun y => y = n) (ij_urn (n := 0) (by decide)) (ij_pure (fun _ => ev_nm (d := .int n) 1) rfl) (fun x y _ e => by subst e; exact ⟨⟨h1, h2⟩, trivial⟩)) rfl (OneU.of rfl) (by omega)) ?_
    exact st_one (s_ret (ev_nm (d := .int r) 2) ⟨⟨m, by omega, rfl⟩, fin r hr.1 hr.2⟩)
  · subst e
    refine st_to (s_urnTick (i := 0) (m := m) rfl (OneU.of rfl)) ?_
    refine st_setJ (i := 0) (c := 0) (m := m + 1) (k := 3) (P := fun d => ∃ r : Int, (0 ≤ r ∧ r < 2147483647) ∧ d = .int r) (ij_mod (c1 := 0) (c2 := 0) (Q1 := fun _ => True) (Q2 := fun y => y = 2147483647)
      (ej_callT1 cr_int m_int (ij_mul (c1 := 0) (c2 := 0) (Q := fun _ => True) (Q1 := fun _ => True) (Q2 := fun y => 0 ≤ y ∧ y ≤ 39373 + big)
        (ij_add (c1 := 0) (c2 := 0) (Q2 := fun _ => True) (ij_urn (n := 1) (by decide)) (ij_mul (c1 := 0) (c2 := 0) (Q1 := fun x => x = 48271) (ij_pure (fun _ => ev_int) rfl) (ij_urn (n := 2) (by decide)) (fun x y e _ => by subst e; exact ⟨.inl (by decide), trivial⟩)) (fun _ _ _ _ => trivial))
        (ij_add (c1 := 0) (c2 := 0) (Q1 := fun x => x = 39373) (ij_pure (fun _ => ev_int) rfl) (ij_urn (n := 2) (by decide)) (fun x y e q => by have := q.2 rfl; subst e; exact ⟨by omega, by omega⟩)) (fun x y _ q => ⟨.inr (by unfold big at q; omega), trivial⟩)) (fun d ⟨x, _, e⟩ => ⟨.int x, .inl ⟨x, by rw [e], rfl⟩, x, trivial, rfl⟩))
      (ij_pure (fun _ => ev_int) rfl) (fun x y _ e => by subst e; exact ⟨by decide, Int.emod_nonneg _ (by decide), Int.emod_lt_of_pos _ (by decide)⟩)) g rfl (OneU.of rfl) (by omega) fun d ⟨once, ho, e⟩ => ?_
    subst e
    refine st_to (s_set (i := 4) (d := .int (once % 40009 + 7)) (ev_add (ev_mod (ev_callT cr_int m_int (av_cons (ev_nm (d := .int once) 3) av_nil) (.inl ⟨once, rfl, rfl⟩)) ev_int (by decide)) ev_int) g) ?_
    have hf1 : 0 ≤ once % 40009 := Int.emod_nonneg _ (by decide)
    have hf2 : once % 40009 < 40009 := Int.emod_lt_of_pos _ (by decide)
    generalize hfar : once % 40009 + 7 = far
    refine st_setJ (i := 0) (c := 0) (m := m + 1) (k := 5) (P := fun d => ∃ r : Int, (0 ≤ r ∧ r < 2147483629) ∧ d = .int r) (ij_mod (c1 := 0) (c2 := 0) (Q1 := fun _ => True) (Q2 := fun y => y = 2147483629)
      (ej_callT1 cr_int m_int (ij_mul (c1 := 0) (c2 := 0) (Q := fun _ => True) (Q1 := fun _ => True) (Q2 := fun y => y = far)
        (ij_add (c1 := 0) (c2 := 0) (Q1 := fun _ => True) (Q2 := fun _ => True) (ij_add (c1 := 0) (c2 := 0) (Q1 := fun _ => True) (ij_pure (fun _ => ev_nm (d := .int once) 3) trivial) (ij_urn (n := 2) (by decide)) (fun _ _ _ _ => trivial))
          (ij_div (c1 := 0) (c2 := 0) (Q2 := fun y => y = 1000003) (ij_urn (n := 1) (by decide)) (ij_pure (fun _ => ev_int) rfl) (fun x y _ e => by subst e; exact ⟨⟨by decide, by decide⟩, trivial⟩)) (fun _ _ _ _ => trivial))
        (ij_pure (fun _ => ev_nm (d := .int far) 4) rfl) (fun x y _ q => ⟨.inr (by omega), trivial⟩)) (fun d ⟨x, _, e⟩ => ⟨.int x, .inl ⟨x, by rw [e], rfl⟩, x, trivial, rfl⟩))
      (ij_pure (fun _ => ev_int) rfl) (fun x y _ e => by subst e; exact ⟨by decide, Int.emod_nonneg _ (by decide), Int.emod_lt_of_pos _ (by decide)⟩)) g rfl (OneU.of rfl) (by omega) fun d ⟨twice, ht, e⟩ => ?_
    subst e
    refine st_one (s_ret (d := .int ((twice * 48271 + once) % 2147483587 / 64 % n)) (ev_mod (ev_callT cr_int m_int (av_cons (ev_div (ev_mod (ev_callT cr_int m_int (av_cons (ev_add (ev_mul (ev_nm (d := .int twice) 5) ev_int (.inr (by decide))) (ev_nm (d := .int once) 3)) av_nil) (.inl ⟨_, rfl, rfl⟩)) ev_int (by decide)) ev_int ⟨by decide, by decide⟩) av_nil) (.inl ⟨_, rfl, rfl⟩)) (ev_nm (d := .int n) 1) h1) ⟨⟨m + 1, by omega, rfl⟩, fin _ (md _).1 (md _).2⟩)

theorem sc_law_cells : FnScope ["script", "many", "cells", "k", "cell", "at"] ["script", "many"] (defScope s_law_cells) := ⟨rfl, rfl, rfl, by decide +kernel, rfl, by decide +kernel, by decide +kernel⟩
theorem sc_law_box : FnScope ["script", "k", "cell"] ["script", "k"] (defScope s_law_box) := ⟨rfl, rfl, rfl, by decide +kernel, rfl, by decide +kernel, by decide +kernel⟩
theorem ok_law_cells (F : FnP K "_law_cells" s_law_cells f fd) (m_int : mg "int" = none) (m_list : mg "list" = none) (m_enumerate : mg "enumerate" = none) : FnOk Pr w K mg base CX0 1 f fd ["script", "many"] (spCells K) := by
  refine fn_okCells F sc_law_cells rfl fun cdv A outer s H E hr g a ns hl => ?_
  have hcut : ∀ lo hi, ∃ ms : List Int, cut (ns.map .int) lo hi = ms.map .int ∧ ms.length ≤ 63 := fun lo hi => by
    refine ⟨(ns.drop (HT.sIx ns.length 0 lo)).take (HT.sIx ns.length ns.length hi - HT.sIx ns.length 0 lo), by simp [cut, List.map_drop, List.map_take], ?_⟩
    rw [List.length_take, List.length_drop]; omega
  have hcut1 : ∃ x : Int, (if cut (ns.map PyData.int) none (some 1) = [] then [PyData.int 0] else cut (ns.map .int) none (some 1)) = [.int x] := by
    cases ns with
    | nil => exact ⟨0, by simp [cut]⟩
    | cons n ns =>
      refine ⟨n, ?_⟩
      have : cut ((n :: ns).map PyData.int) none (some 1) = [.int n] := by
        unfold cut
        simp [HT.sIx]
      rw [this]
      rfl
  obtain ⟨x0, hx0⟩ := hcut1
  obtain ⟨ms, hms, hml⟩ := hcut (some 1) (some 63)
  refine so_to (s_own (i := 2) (d := .list [.int x0]) (Nw.cast (nw_or (nw_list (x := "list") rfl m_list (ev_scr (i := 0) rfl (fun _ h => h) pv_none (pv_some (ev_nm (d := .int 1) 1)) (by omega)) (sqL _)) (nw_lst (av_cons ev_int av_nil) (by decide))) (congrArg PyData.list hx0)) g) ?_
  refine so_cons (N1 := fun G => ∃ x s3 s4 s5, G = [.raw (.ref a) (fun H => SqL K H a (ns.map V.int)), .val (.int 1), .own (.list [.int x]), s3, s4, s5]) (s_for (α := PyData) g [3, 4] (gt := gTup K 2 (gCons (gName 3) (gCons (gName 4) gNil))) (enumD (ms.map .int)) id (fun _ G => ∃ x s3 s4 s5, G = [.raw (.ref a) (fun H => SqL K H a (ns.map V.int)), .val (.int 1), .own (.list [.int x]), s3, s4, s5])
    (by rw [List.map_id, ← hms]; exact ei_enum m_enumerate (ev_scr (i := 0) rfl (fun _ h => h) (pv_some (ev_nm (d := .int 1) 1)) (pv_some ev_int) (by omega)) (sqL _) fl_f)
    (pg_tup g.calm (pgs_cons (pg_name (i := 3) g.nd rfl (by first | exact Or.inl rfl | exact Or.inr rfl)) (pgs_cons (pg_name (i := 4) g.nd rfl (by first | exact Or.inl rfl | exact Or.inr rfl)) pgs_nil))) ⟨x0, _, _, _, rfl⟩ (fun i d Γ1 hd ⟨x, s3, s4, s5, e⟩ => ?_) fun Γ1 h => h) fun Γ1 ⟨x, s3, s4, s5, e⟩ => ?_
  · subst e
    have hi : i < ms.length := by
      have := (List.getElem?_eq_some_iff.mp hd).1
      simpa [enumD] using this
    have e2 := enumD_at (ds := ms.map PyData.int) (i := i) (x := .int ms[i]) (by simp [hi])
    rw [hd] at e2
    cases e2
    refine ⟨[.raw (.ref a) (fun H => SqL K H a (ns.map V.int)), .val (.int 1), .own (.list [.int x]), .val (.int (i : Nat)), .val (.int ms[i]), s5], bd_tup (bds_cons bd_name (bds_cons bd_name bds_nil)), ?_⟩
    refine st_to (s_set (i := 5) (d := .int 0) (Ev.cast (ev_mod (ev_callT cr_int m_int (av_cons (ev_nm (d := .int (i : Nat)) 3) av_nil) (.inl ⟨_, rfl, rfl⟩)) (ev_nm (d := .int 1) 1) (by decide)) (by rw [Int.emod_one])) g) ?_
    refine st_one (S1.post (s_setitem (i := 2) (ds := [.int x]) (n := 0) (j := 0) (ev_add (Ev.thaw (ev_ix (ev_own 2) (ev_nm (d := .int 0) 5) (sqL _) rfl) rfl) (ev_mul (ev_nm (d := .int ms[i]) 4) (ev_add (ev_nm (d := .int (i : Nat)) 3) ev_int) (.inr (by omega)))) (ev_nm (d := .int 0) 5) rfl) fun G e => ⟨_, _, _, _, e⟩)
  · subst e
    exact so_ret (i := 2) rfl ⟨x, rfl⟩
theorem bool01 (b : Bool) : -(2 ^ 64) < (if b = true then 1 else 0 : Int) ∧ (if b = true then 1 else 0 : Int) < 2 ^ 64 := by cases b <;> decide
theorem ok_law_box (F : FnP K "_law_box" s_law_box f fd) (m_int : mg "int" = none) (m_abs : mg "abs" = none) (m_len : mg "len" = none) : FnOk Pr w K mg base CX0 1 f fd ["script", "k"] spBox := by
  refine fn_okBox F sc_law_box rfl fun cdv A outer s H E hr g x => ?_
  refine so_to (s_set (i := 2) (d := .int x) (Ev.cast (ev_if (b := _) (d1 := .int x) (d2 := .int 0) (tv_c (bz := false) (x := true) (Cv.cast (cv_lt (ev_nm (d := .int 0) 1) (ev_call cr_len m_len (av_cons (ev_nm (d := .list [.int x]) 0) av_nil) ⟨_, 1, rfl, rfl, rfl⟩)) rfl)) (fun _ => ev_ix (ev_nm (d := .list [.int x]) 0) (ev_nm (d := .int 0) 1) (sqL _) rfl) (fun e => nomatch e)) rfl) g) ?_
  refine so_retN (nw_lst (av_cons (ev_mul (ev_call cr_abs m_abs (av_cons (ev_nm (d := .int x) 2) av_nil) ⟨x, rfl, rfl⟩) (ev_callT cr_int m_int (av_cons (ev_c (cv_ge (ev_call cr_abs m_abs (av_cons (ev_nm (d := .int x) 2) av_nil) ⟨x, rfl, rfl⟩) (ev_pow ev_int ev_int ⟨by decide, by decide, by decide⟩))) av_nil) (.inr ⟨_, rfl, rfl⟩)) ?_)
    (av_cons (ev_add (ev_add (ev_mod (ev_callT cr_int m_int (av_cons (ev_nm (d := .int x) 2) av_nil) (.inl ⟨_, rfl, rfl⟩)) ev_int (by decide)) (ev_mul ev_int (ev_nm (d := .int 0) 1) (.inl (by decide)))) ev_int) (av_cons ev_int av_nil))) (Nat.le_of_ble_eq_true rfl)) ⟨_, _, rfl, ?_, ?_⟩
  · exact .inr (bool01 _)
  · have h1 : 0 ≤ x % 2305843009213693951 := Int.emod_nonneg _ (by decide)
    omega
  · have h2 : x % 2305843009213693951 < 2305843009213693951 := Int.emod_lt_of_pos _ (by decide)
    omega

theorem sc_tupled : FnScope ["value", "part"] ["value"] (defScope s_tupled) := ⟨rfl, rfl, rfl, by decide +kernel, rfl, by decide +kernel, by decide +kernel⟩
theorem sc_law_soft : FnScope ["matter", "bit"] ["matter"] (defScope s_law_soft) := ⟨rfl, rfl, rfl, by decide +kernel, rfl, by decide +kernel, by decide +kernel⟩
theorem plain_sub {ds : List PyData} (h : PyData.plainAll ds = true) : ∀ x ∈ ds, x.plain = true := fun x hx => PySem.W.plain_mem h hx
theorem depth_sub : ∀ {ds : List PyData} {n : Nat}, PyData.depthAll ds ≤ n → ∀ x ∈ ds, x.depth ≤ n
  | [], _, _, _, hx => nomatch hx
  | d :: ds, n, h, x, hx => by
    rw [PyData.depthAll] at h
    rcases List.mem_cons.mp hx with rfl | hx
    · exact Nat.le_trans (Nat.le_max_left _ _) h
    · exact depth_sub (Nat.le_trans (Nat.le_max_right _ _) h) x hx
/-- the items of a sequence, or none -/
theorem seq_or {x : PyData} (hp : x.plain = true) : (∃ ds, isSeq x ds ∧ PyData.plainAll ds = true ∧ x.depth = PyData.depthAll ds + 1 ∧ (isK x "list" || isK x "tuple") = true ∧ tupD x = .tuple (ds.map tupD) ∧ softD x = .list (ds.map softD)) ∨ ((isK x "list" || isK x "tuple") = false ∧ tupD x = x ∧ softD x = x) := by
  cases x with
  | list ds => exact .inl ⟨ds, .inl rfl, hp, rfl, rfl, by rw [tupD, tupAll_map], by rw [softD, softAll_map]⟩
  | tuple ds => exact .inl ⟨ds, .inr rfl, hp, rfl, rfl, by rw [tupD, tupAll_map], by rw [softD, softAll_map]⟩
  | dict ds => simp [PyData.plain] at hp
  | none => exact .inr ⟨rfl, rfl, rfl⟩
  | bool _ => exact .inr ⟨rfl, rfl, rfl⟩
  | int _ => exact .inr ⟨rfl, rfl, rfl⟩
  | str _ => exact .inr ⟨rfl, rfl, rfl⟩
theorem f_tupled (F : FnP K "tupled" s_tupled f fd) (m_tupled : mg "tupled" = some (.ref f)) (m_tuple : mg "tuple" = none) (m_list : mg "list" = none) (m_isinstance : mg "isinstance" = none) : ∀ n, FnF Pr w K mg base "tupled" (n + 1) ["value"] (P_tupled n)
  | 0 => fn_f F (by
    refine fn_ok F sc_tupled (fun ds d h => by obtain ⟨x, rfl, _⟩ := h; rfl) fun cdv A outer s H E hr g ds d h => ?_
    obtain ⟨x, rfl, hp, hd, rfl⟩ := h
    rcases seq_or hp with ⟨ds, hs, hpa, hdp, ht, h1, _⟩ | ⟨ht, h1, _⟩
    · omega
    · rw [h1]
      refine st_one (s_ret (ev_if (d1 := .none) (tv_of (bz := false) (ev_isi2 m_isinstance (ev_nm (d := x) 0) m_list m_tuple (T := "list") (T2 := "tuple"))) (fun e => by rw [ht] at e; cases e) (fun _ => ev_nm (d := x) 0)) ?_)
      rw [ht]
      rfl) m_tupled (fun _ _ _ _ _ _ us hl => match us, hl with | [_], _ => rfl)
  | n + 1 => fn_f F (by
    have ih := f_tupled F m_tupled m_tuple m_list m_isinstance n
    refine fn_ok F sc_tupled (fun ds d h => by obtain ⟨x, rfl, _⟩ := h; rfl) fun cdv A outer s H E hr g ds d h => ?_
    obtain ⟨x, rfl, hp, hd, rfl⟩ := h
    rcases seq_or hp with ⟨ds, hs, hpa, hdp, ht, h1, _⟩ | ⟨ht, h1, _⟩
    · rw [h1]
      refine st_one (s_ret (ev_if (d2 := .none) (tv_of (bz := false) (ev_isi2 m_isinstance (ev_nm (d := x) 0) m_list m_tuple (T := "list") (T2 := "tuple")))
        (fun _ => ev_callT cr_tuple m_tuple (av_cons (Ev.frozen (ev_lc (own := [("part", 1)]) (gt := gName 1) g ds id (fun _ => true) tupD (fun p => [.val x, .val p]) (ei_seq (ev_nm (d := x) 0) (by rw [List.map_id]; exact hs) fl_f) (blkOk_by (by rfl))
          (fun _ _ _ _ _ => pg_name (i := 1) g.nd rfl (by first | exact Or.inl rfl | exact Or.inr rfl)) (fun _ _ => bd_name) (fun _ _ _ _ _ _ _ => tsv_nil)
          (fun _ _ _ _ _ p hpm _ => ev_fn ih hr (av_cons (ev_nm (d := p) 1) av_nil) ⟨p, rfl, plain_sub hpa p hpm, depth_sub (by omega) p hpm, rfl⟩))) av_nil) ⟨_, _, rfl, sqL _, rfl⟩) (fun e => by rw [ht] at e; cases e)) ?_)
      rw [ht, if_pos rfl, filter_T]
    · rw [h1]
      refine st_one (s_ret (ev_if (d1 := .none) (tv_of (bz := false) (ev_isi2 m_isinstance (ev_nm (d := x) 0) m_list m_tuple (T := "list") (T2 := "tuple"))) (fun e => by rw [ht] at e; cases e) (fun _ => ev_nm (d := x) 0)) ?_)
      rw [ht]
      rfl) m_tupled (fun _ _ _ _ _ _ us hl => match us, hl with | [_], _ => rfl)
theorem f_law_soft (F : FnP K "_law_soft" s_law_soft f fd) (m_law_soft : mg "_law_soft" = some (.ref f)) (m_tuple : mg "tuple" = none) (m_list : mg "list" = none) (m_isinstance : mg "isinstance" = none) : ∀ n, FnF Pr w K mg base "_law_soft" (n + 1) ["matter"] (P_law_soft n)
  | 0 => fn_f F (by
    refine fn_ok F sc_law_soft (fun ds d h => by obtain ⟨x, rfl, _⟩ := h; rfl) fun cdv A outer s H E hr g ds d h => ?_
    obtain ⟨x, rfl, hp, hd, rfl⟩ := h
    rcases seq_or hp with ⟨ds, hs, hpa, hdp, ht, _, h1⟩ | ⟨ht, _, h1⟩
    · omega
    · rw [h1]
      refine st_one (s_ret (ev_if (d1 := .none) (tv_of (bz := false) (ev_isi2 m_isinstance (ev_nm (d := x) 0) m_list m_tuple (T := "list") (T2 := "tuple"))) (fun e => by rw [ht] at e; cases e) (fun _ => ev_nm (d := x) 0)) ?_)
      rw [ht]
      rfl) m_law_soft (fun _ _ _ _ _ _ us hl => match us, hl with | [_], _ => rfl)
  | n + 1 => fn_f F (by
    have ih := f_law_soft F m_law_soft m_tuple m_list m_isinstance n
    refine fn_ok F sc_law_soft (fun ds d h => by obtain ⟨x, rfl, _⟩ := h; rfl) fun cdv A outer s H E hr g ds d h => ?_
    obtain ⟨x, rfl, hp, hd, rfl⟩ := h
    rcases seq_or hp with ⟨ds, hs, hpa, hdp, ht, _, h1⟩ | ⟨ht, _, h1⟩
    · rw [h1]
      refine st_one (s_ret (ev_if (d2 := .none) (tv_of (bz := false) (ev_isi2 m_isinstance (ev_nm (d := x) 0) m_list m_tuple (T := "list") (T2 := "tuple")))
        (fun _ => (Ev.frozen (ev_lc (own := [("bit", 1)]) (gt := gName 1) g ds id (fun _ => true) softD (fun p => [.val x, .val p]) (ei_seq (ev_nm (d := x) 0) (by rw [List.map_id]; exact hs) fl_f) (blkOk_by (by rfl))
          (fun _ _ _ _ _ => pg_name (i := 1) g.nd rfl (by first | exact Or.inl rfl | exact Or.inr rfl)) (fun _ _ => bd_name) (fun _ _ _ _ _ _ _ => tsv_nil)
          (fun _ _ _ _ _ p hpm _ => ev_fn ih hr (av_cons (ev_nm (d := p) 1) av_nil) ⟨p, rfl, plain_sub hpa p hpm, depth_sub (by omega) p hpm, rfl⟩)))) (fun e => by rw [ht] at e; cases e)) ?_)
      rw [ht, if_pos rfl, filter_T]
    · rw [h1]
      refine st_one (s_ret (ev_if (d1 := .none) (tv_of (bz := false) (ev_isi2 m_isinstance (ev_nm (d := x) 0) m_list m_tuple (T := "list") (T2 := "tuple"))) (fun e => by rw [ht] at e; cases e) (fun _ => ev_nm (d := x) 0)) ?_)
      rw [ht]
      rfl) m_law_soft (fun _ _ _ _ _ _ us hl => match us, hl with | [_], _ => rfl)

/-! ### _law_same -/
theorem sc_law_same : FnScope ["got", "due", "mine", "own"] ["got", "due"] (defScope s_law_same) := ⟨rfl, rfl, rfl, by decide +kernel, rfl, by decide +kernel, by decide +kernel⟩
mutual
theorem eqv_self : ∀ x : PyData, x.plain = true → PyData.eqv x x = true
  | .none, _ => by simp [PyData.eqv]
  | .bool _, _ => by simp [PyData.eqv]
  | .int _, _ => by simp [PyData.eqv]
  | .str _, _ => by simp [PyData.eqv]
  | .list ds, h => by simp only [PyData.eqv]; exact eqvAll_self ds h
  | .tuple ds, h => by simp only [PyData.eqv]; exact eqvAll_self ds h
  | .dict _, h => by simp [PyData.plain] at h
theorem eqvAll_self : ∀ xs : List PyData, PyData.plainAll xs = true → PyData.eqvAll xs xs = true
  | [], _ => by simp [PyData.eqvAll]
  | x :: xs, h => by
    simp only [PyData.plainAll, Bool.and_eq_true] at h
    simp only [PyData.eqvAll, Bool.and_eq_true]
    exact ⟨eqv_self x h.1, eqvAll_self xs h.2⟩
end
theorem zip_self_map {α : Type} (ds : List α) : ds.zip ds = ds.map fun d => (d, d) := by
  induction ds with
  | nil => rfl
  | cons d ds ih => rw [List.zip_cons_cons, ih, List.map_cons]
theorem ok_law_same (F : FnP K "_law_same" s_law_same f fd) (m_tuple : mg "tuple" = none) (m_list : mg "list" = none) (m_isinstance : mg "isinstance" = none) (m_len : mg "len" = none) (m_all : mg "all" = none) (m_zip : mg "zip" = none) (m_int : mg "int" = none) (m_bool : mg "bool" = none) (m_str : mg "str" = none)
    (n : Nat) (hn : n ≤ 40) (ih : ∀ m, m + 1 = n → FnF Pr w K mg base "_law_same" n ["got", "due"] (P_law_same m)) : FnOk Pr w K mg base CX0 (n + 1) f fd ["got", "due"] (spD (P_law_same n)) := by
  refine fn_ok F sc_law_same (fun ds d h => by obtain ⟨x, rfl, _⟩ := h; rfl) fun cdv A outer s H E hr g ds d h => ?_
  obtain ⟨x, rfl, hp, hd, rfl⟩ := h
  have hsm : small x = true := small_iff.mpr ⟨hp, by omega⟩
  have eb : ∀ b : Bool, PyData.eqv (.bool b) (.bool b) = true := fun b => by simp [PyData.eqv]
  rcases seq_or hp with ⟨ds, hs, hpa, hdp, ht, _⟩ | ⟨ht, _⟩
  · refine st_cons (N1 := fun _ => False) (s_if (b := true) (Tv.cast (tv_of (bz := false) (ev_isi2 m_isinstance (ev_nm (d := x) 1) m_list m_tuple (T := "list") (T2 := "tuple"))) ht) (fun _ => ?_) (fun e => nomatch e)) fun _ z => z.elim
    refine st_ifF (Tv.cast (tv_pw (tw_or (tv_c (bz := false) (cv_ne g (ev_isi m_isinstance (ev_nm (d := x) 0) m_list (T := "list")) (ev_isi m_isinstance (ev_nm (d := x) 1) m_list (T := "list")) rfl rfl))
      (fun _ => tw_or1 (tv_c (bz := false) (cv_ne g (ev_isi m_isinstance (ev_nm (d := x) 0) m_tuple (T := "tuple")) (ev_isi m_isinstance (ev_nm (d := x) 1) m_tuple (T := "tuple")) rfl rfl))))) (by simp [eb])) ?_
    have hlen : isLen x ds.length := by rcases hs with rfl | rfl <;> rfl
    refine st_one (s_ret (d := .bool true) (Ev.cast (ev_and (ev_c (cv_eq g (ev_call cr_len m_len (av_cons (ev_nm (d := x) 0) av_nil) ⟨x, _, rfl, hlen, rfl⟩) (ev_call cr_len m_len (av_cons (ev_nm (d := x) 1) av_nil) ⟨x, _, rfl, hlen, rfl⟩) rfl rfl))
      (fun _ => ev_one (ev_call (cr_all g) m_all (av_cons (Ev.frozen (ev_lc (own := [("mine", 2), ("own", 3)]) (gt := gTup K 2 (gCons (gName 2) (gCons (gName 3) gNil))) g (ds.map fun d => (d, d)) (fun p => .tuple [p.1, p.2]) (fun _ => true) (fun _ => .bool true) (fun p => [.val x, .val x, .val p.1, .val p.2])
        (Ei.cast (ei_zip m_zip (ev_nm (d := x) 0) (ev_nm (d := x) 1) hs hs fl_f fl_f) (by simp [zipD, zip_self_map])) (blkOk_by (by rfl))
        (fun _ _ _ _ _ => pg_tup g.calm (pgs_cons (pg_name (i := 2) g.nd rfl (by first | exact Or.inl rfl | exact Or.inr rfl)) (pgs_cons (pg_name (i := 3) g.nd rfl (by first | exact Or.inl rfl | exact Or.inr rfl)) pgs_nil))) (fun _ _ => bd_tup (bds_cons bd_name (bds_cons bd_name bds_nil))) (fun _ _ _ _ _ _ _ => tsv_nil)
        (fun _ _ _ _ _ p hpm _ => ?_))) av_nil) ⟨_, ds.map fun _ => true, rfl, ?_, rfl⟩))) ?_) rfl)
    · have hpm' : p.1 ∈ ds ∧ p.2 = p.1 := by
        obtain ⟨d, hd', rfl⟩ := List.mem_map.mp hpm
        exact ⟨hd', rfl⟩
      rw [hpm'.2]
      obtain ⟨m, rfl⟩ : ∃ m, n = m + 1 := ⟨n - 1, by omega⟩
      exact ev_fn (ih m rfl) hr (av_cons (ev_nm (d := p.1) 2) (av_cons (ev_nm (d := p.1) 3) av_nil)) ⟨p.1, rfl, plain_sub hpa _ hpm'.1, depth_sub (by omega) _ hpm'.1, rfl⟩
    · rw [filter_T]
      exact .inl (by simp)
    · simp [PyData.eqv]
  · refine st_ifR (Tv.cast (tv_of (bz := false) (ev_isi2 m_isinstance (ev_nm (d := x) 1) m_list m_tuple (T := "list") (T2 := "tuple"))) ht) (fun e => nomatch e) fun _ => ?_
    by_cases h2 : (isNon x || (isK x "bool" || isK x "str")) = true
    · refine st_cons (N1 := fun _ => False) (s_if (b := true) (Tv.cast (tv_pw (tw_or (tv_c (bz := false) (cv_isN (ev_nm (d := x) 1))) (fun _ => tw_or1 (tv_of (bz := false) (ev_isi2 m_isinstance (ev_nm (d := x) 1) m_bool m_str (T := "bool") (T2 := "str")))))) h2) (fun _ => ?_) (fun e => nomatch e)) fun _ z => z.elim
      refine st_one (s_ret (d := .bool true) (Ev.cast (ev_and (ev_c (cv_eq g (ev_isi m_isinstance (ev_nm (d := x) 0) m_str (T := "str")) (ev_isi m_isinstance (ev_nm (d := x) 1) m_str (T := "str")) rfl rfl))
        (fun _ => ev_and (ev_c (cv_eq g (ev_isi m_isinstance (ev_nm (d := x) 0) m_bool (T := "bool")) (ev_isi m_isinstance (ev_nm (d := x) 1) m_bool (T := "bool")) rfl rfl))
        (fun _ => ev_and (ev_c (cv_eq g (ev_c (cv_isN (ev_nm (d := x) 0))) (ev_c (cv_isN (ev_nm (d := x) 1))) rfl rfl)) (fun _ => ev_one (ev_c (cv_eq g (ev_nm (d := x) 0) (ev_nm (d := x) 1) hsm hsm)))))) (by simp [eb, eqv_self x hp])) rfl)
    · refine st_ifR (b := false) (Tv.cast (tv_pw (tw_or (tv_c (bz := false) (cv_isN (ev_nm (d := x) 1))) (fun _ => tw_or1 (tv_of (bz := false) (ev_isi2 m_isinstance (ev_nm (d := x) 1) m_bool m_str (T := "bool") (T2 := "str")))))) (by simpa using h2)) (fun e => nomatch e) fun _ => ?_
      have hk : isK x "int" = true ∧ isK x "bool" = false := by
        cases x <;> first | (exfalso; simp [PyData.plain] at hp; done) | exact ⟨rfl, rfl⟩ | (exfalso; exact h2 rfl) | (exfalso; cases ht) | (exfalso; simp [PyData.plain] at hp)
      refine st_one (s_ret (d := .bool true) (Ev.cast (ev_and (ev_isi m_isinstance (ev_nm (d := x) 0) m_int (T := "int")) (fun _ => ev_and (ev_not (ev_isi m_isinstance (ev_nm (d := x) 0) m_bool (T := "bool"))) (fun _ => ev_one (ev_c (cv_eq g (ev_nm (d := x) 0) (ev_nm (d := x) 1) hsm hsm))))) (by simp [hk.1, hk.2, eqv_self x hp])) rfl)
theorem f_law_same (F : FnP K "_law_same" s_law_same f fd) (m_law_same : mg "_law_same" = some (.ref f)) (m_tuple : mg "tuple" = none) (m_list : mg "list" = none) (m_isinstance : mg "isinstance" = none) (m_len : mg "len" = none) (m_all : mg "all" = none) (m_zip : mg "zip" = none) (m_int : mg "int" = none) (m_bool : mg "bool" = none) (m_str : mg "str" = none) :
    ∀ n, n ≤ 40 → FnF Pr w K mg base "_law_same" (n + 1) ["got", "due"] (P_law_same n)
  | 0, hn => fn_f F (ok_law_same F m_tuple m_list m_isinstance m_len m_all m_zip m_int m_bool m_str 0 hn fun _ z => nomatch z) m_law_same (fun _ _ _ _ _ _ us hl => match us, hl with | [_, _], _ => rfl)
  | n + 1, hn => fn_f F (ok_law_same F m_tuple m_list m_isinstance m_len m_all m_zip m_int m_bool m_str (n + 1) hn fun m z => by
      have e : m = n := by omega
      subst e
      exact f_law_same F m_law_same m_tuple m_list m_isinstance m_len m_all m_zip m_int m_bool m_str m (by omega)) m_law_same (fun _ _ _ _ _ _ us hl => match us, hl with | [_, _], _ => rfl)


theorem sc_law_numbers : FnScope ["urn", "many", "below", "place"] ["urn", "many", "below"] (defScope s_law_numbers) := ⟨rfl, rfl, rfl, by decide +kernel, rfl, by decide +kernel, by decide +kernel⟩
theorem ok_law_numbers (F : FnP K "_law_numbers" s_law_numbers f fd) (m_range : mg "range" = none) (m_tuple : mg "tuple" = none) (F_law_take : FnU Pr w K mg base "_law_take" 1 ["urn", "below"] 1 P_law_take) : FnOk Pr w K mg base CX0 2 f fd ["urn", "many", "below"] (spU 16 P_law_numbers) := by
  refine fn_okU F sc_law_numbers (fun ds d h => by obtain ⟨many, below, v, rfl, _⟩ := h; rfl) (by decide) fun cdv A outer s H E hr g m ds d0 hb hp => ?_
  obtain ⟨many, below, v, rfl, h1, h2, h3, h4, -, -, -⟩ := hp
  refine st_one (s_retJ (i := 0) (c := 16) (m := m) (d_tuple m_tuple (d_lc (own := [("place", 3)]) (gt := gName 3) (c2 := 1) eI eI (DL.rangeT 0 many.toNat) (fun _ r => 0 ≤ r ∧ r < below) (fun x => [.no, .val (.int many), .val (.int below), .val (.int x)]) g (fun m => ti_range m_range (ev_nm (d := .int many) 1) (by omega) h1) (blkOk_by (by rfl)) (fun _ _ _ _ _ => pg_name (i := 3) g.nd rfl (by first | exact Or.inl rfl | exact Or.inr rfl)) (fun _ _ _ => bd_name) (fun _ _ => OneU.of rfl) (fun _ _ _ _ _ x hx => d_take F_law_take (hr.mono (by decide)) (fun m => ev_nm (d := .int below) 2) ⟨h3, by omega⟩) 16 (by simp [DL.rangeT]; omega))) rfl (OneU.of rfl) hb fun d ⟨v, ⟨q1, q2⟩, e⟩ => ?_)
  subst e
  refine ⟨flT flI v, ⟨m + 16, Nat.le_refl _, rfl⟩, flT flI v, many, below, v, rfl, h1, h2, h3, h4, ?_, fun x hx => ?_, rfl⟩
  · rw [q1]; simp [DL.rangeT]; omega
  · obtain ⟨k, hk, e⟩ := List.getElem_of_mem hx
    have hk' : k < (DL.rangeT 0 many.toNat).length := by rw [← q1]; exact hk
    exact q2 k _ x (List.getElem?_eq_getElem hk') (by rw [List.getElem?_eq_getElem hk, e])
theorem sc_law_rules : FnScope ["urn", "kinds", "found", "turn", "group", "name"] ["urn"] (defScope s_law_rules) := ⟨rfl, rfl, rfl, by decide +kernel, rfl, by decide +kernel, by decide +kernel⟩
theorem ok_law_rules (F : FnP K "_law_rules" s_law_rules f fd) (m_range : mg "range" = none) (m_tuple : mg "tuple" = none) (m_sorted : mg "sorted" = none) (F_law_take : FnU Pr w K mg base "_law_take" 1 ["urn", "below"] 1 P_law_take) : FnOk Pr w K mg base CX0 2 f fd ["urn"] (spU 20 P_law_rules) := by
  refine fn_okU F sc_law_rules (fun ds d h => by obtain ⟨r, rfl, _⟩ := h; rfl) (by decide) fun cdv A outer s H E hr g m ds d0 hb hp => ?_
  obtain ⟨r0, rfl, _, _⟩ := hp
  refine st_setD (i := 0) (l := 1) (m := m) (c := 1) (E := eT eN) (d_mono (d_cutT (E := eN) (xs := KA) (fun m => t_tupD eN KA (t_avc eN (Str.ofString "a") _ ev_str (t_avc eN (Str.ofString "b") _ ev_str (t_avc eN (Str.ofString "c") _ ev_str (t_avc eN (Str.ofString "d") _ ev_str av_nil)))) (by decide)) (d_add (d_pure (E := eI) (v := 2) fun m => ev_int) (d_take F_law_take (hr.mono (by decide)) (fun m => ev_int) (by decide)))) (Nat.le_refl _) (fun v q => q)) g (fun kinds hk => ?_) (by omega)
  have hk' : kinds = KA.take 2 ∨ kinds = KA.take 3 ∨ kinds = KA.take 4 := by
    obtain ⟨n, ⟨x, y, hx, hy, e⟩, e2⟩ := hk
    subst hx
    have hc : y = 0 ∨ y = 1 ∨ y = 2 := by omega
    rcases hc with rfl | rfl | rfl
    · exact .inl (by subst e; rw [e2]; rfl)
    · exact .inr (.inl (by subst e; rw [e2]; rfl))
    · exact .inr (.inr (by subst e; rw [e2]; rfl))
  have hl : kinds.length ≤ 4 := by rcases hk' with e | e | e <;> (rw [e]; decide)
  clear hk
  refine st_letD (i := 2) ([] : List (List Str)) (fun v => (eL (eT eN)).f v) (s_set (t_lstD (eT eN) [] av_nil (by decide)) g) fun found e_found => ?_
  refine st_forJ (i := 0) (c := 1) (m := m + 1) (gt := gName 3) (Q1 := fun r => 0 ≤ r ∧ r < 5) g [3] m_range (d_take F_law_take (hr.mono (by decide)) (fun m => ev_int) (by decide)) rfl (OneU.of rfl) (by omega) (fun n q => ⟨q.1, by omega⟩) (fun n j G => ∃ (m2 : Nat) (found : List (List Str)), G = [.urn m2, .val ((eT eN).f kinds), .val ((eL (eT eN)).f found), .no, .no, .no] ∧ m2 ≤ m + 2 + 4 * j ∧ found.length ≤ j ∧ found.Nodup ∧ ∀ g ∈ found, g ≠ [] ∧ g.Sublist kinds)
    (pg_name (i := 3) g.nd rfl (by first | exact Or.inl rfl | exact Or.inr rfl)) (fun n q => ⟨m + 2, found, rfl, by omega, by subst e_found; exact Nat.le_refl _, by subst e_found; exact List.nodup_nil, by subst e_found; exact fun _ h => by cases h⟩) ?_ ?_
  · rintro n j G q hj ⟨m2, found, e, b1, b2, b3, b4⟩
    refine ⟨_, bd_name, ?_⟩
    subst e
    refine st_setD (i := 0) (l := 4) (m := m2) (c := 4) (E := eT eN) (d_tuple m_tuple (d_fil (own := [("name", 5)]) (gt := gName 5) (c1 := 1) eN kinds (fun x => [.no, .val ((eT eN).f kinds), .val ((eL (eT eN)).f found), .val (.int j), .no, .val (.str x)]) g (fun m => ti_seq eN kinds (ev_nm (d := ((eT eN).f kinds)) 1) (sqeT _ _) fl_f) (blkOk_by (by rfl)) (fun _ _ _ _ _ => pg_name (i := 5) g.nd rfl (by first | exact Or.inl rfl | exact Or.inr rfl)) (fun _ _ _ => bd_name) (fun _ _ => OneU.of rfl) (fun _ _ _ _ _ x hx => tsj_one (dt_eq (c1 := 1) (c2 := 0) (d_take F_law_take (hr.mono (by decide)) (fun m => ev_int) (by decide)) (d_pure (E := eI) (v := 0) fun m => ev_int))) (fun _ _ _ _ _ x hx m => ev_nm (d := .str x) 5) 4 (by omega))) g (fun group hg => ?_) (by omega)
    refine st_letD (i := 2) (found ++ (if (!decide (group = []) && !decide (group ∈ found)) = true then [group] else [])) (fun v => (eL (eT eN)).f v) (s_set (t_catL (eT eN) found _ (ev_nm (d := ((eL (eT eN)).f found)) 2) (t_if (eL (eT eN)) (tv_pw (tw_and (tv_c (bz := false) (t_ne (eT eN) g (ev_nm (d := ((eT eN).f group)) 4) (t_tupD eN [] av_nil (Nat.zero_le _)))) (fun hc => tw_and1 (tv_c (bz := false) (t_notIn (eT eN) g (ev_nm (d := ((eT eN).f group)) 4) (ev_nm (d := ((eL (eT eN)).f found)) 2) (sqeL _ _)))))) (fun _ => t_lstD (eT eN) [group] (t_avc (eT eN) group [] (ev_nm (d := ((eT eN).f group)) 4) av_nil) (Nat.le_of_ble_eq_true rfl)) (fun _ => t_lstD (eT eN) [] av_nil (by decide))) (by split <;> simp <;> omega)) g) fun found2 e_found2 => ?_
    refine st_end (Γ' := [.urn (m2 + 4), .val ((eT eN).f kinds), .val ((eL (eT eN)).f found2), .no, .no, .no]) (by repeat (first | exact Wk.nil | apply Wk.same | apply Wk.drop)) ⟨m2 + 4, found2, rfl, by omega, ?_⟩
    subst e_found2
    by_cases hc : (!decide (group = []) && !decide (group ∈ found)) = true
    · rw [if_pos hc]
      simp at hc
      refine ⟨by simp; omega, List.nodup_append.mpr ⟨b3, by simp, fun a ha b hb => by simp at hb; subst hb; intro e; subst e; exact hc.2 ha⟩, fun x hx => ?_⟩
      rcases List.mem_append.mp hx with h | h
      · exact b4 x h
      · simp at h; subst h; exact ⟨hc.1, hg⟩
    · rw [if_neg hc, List.append_nil]
      exact ⟨by omega, b3, b4⟩
  · rintro n G q ⟨m2, found, e, b1, b2, b3, b4⟩
    subst e
    refine st_one (s_ret (Ev.frozen (ev_tup (av_cons (ev_nm (d := ((eT eN).f kinds)) 1) (av_cons (t_tuple (eT eN) (srt (ltL ltN) found) m_tuple (t_sorted (OrdE.tup oN) g found m_sorted (ev_nm (d := ((eL (eT eN)).f found)) 2) (.inl fun _ => ⟨_, rfl⟩)) (sqeL _ _)) av_nil)) (Nat.le_of_ble_eq_true rfl))) ⟨⟨m2, by omega, rfl⟩, ?_, (kinds, srt (ltL ltN) found), rfl, ⟨hk', by rw [srt_len]; omega, srt_asc (TotL.lst totN) _, (srt_perm _).nodup_iff.mpr b3, fun g hg => b4 g (srt_mem.mp hg)⟩, rfl⟩)
    exact flP (flT flN) (flT (flT flN)) (kinds, srt (ltL ltN) found)

def is_number (value : Int) : Bool :=
  (true && (!false))
def P_is_number (ds : List PyData) (d : PyData) : Prop := ∃ (value : Int), ds = [(eI.f value)] ∧ d = (eB.f (is_number value))
theorem sc_is_number : FnScope ["value"] ["value"] (defScope s_is_number) := ⟨rfl, rfl, rfl, by decide +kernel, rfl, by decide +kernel, by decide +kernel⟩
theorem ok_is_number (F : FnP K "is_number" s_is_number f fd) (m_bool : mg "bool" = none) (m_int : mg "int" = none) (m_isinstance : mg "isinstance" = none) : FnOk Pr w K mg base CX0 1 f fd ["value"] (spD P_is_number) := by
  refine fn_ok F sc_is_number (fun ds d h => by obtain ⟨value, rfl, rfl⟩ := h; rfl) fun cdv A outer s H E hr g ds d h => ?_
  obtain ⟨value, rfl, rfl⟩ := h
  exact st_one (s_ret (Ev.frozen (ev_and (Ev.cast (d' := .bool true) (ev_isi m_isinstance (ev_nm (d := (eI.f value)) 0) m_int (T := "int")) rfl) (fun hc => (ev_one (ev_not (Ev.cast (d' := .bool false) (ev_isi m_isinstance (ev_nm (d := (eI.f value)) 0) m_bool (T := "bool")) rfl)))))) (by first | rfl | (unfold is_number; rfl) | (unfold is_number; simp; done)))

def is_rising (row : (List (List Str))) : Bool :=
  (((row.zip (cutT row (some (1 : Int)) none)).map fun z => ((ltL ltN) z.1 z.2)).all id)
def P_is_rising (ds : List PyData) (d : PyData) : Prop := ∃ (row : (List (List Str))), ds = [((eT (eT eN)).f row)] ∧ d = (eB.f (is_rising row))
theorem sc_is_rising : FnScope ["row", "one", "other"] ["row"] (defScope s_is_rising) := ⟨rfl, rfl, rfl, by decide +kernel, rfl, by decide +kernel, by decide +kernel⟩
theorem ok_is_rising (F : FnP K "is_rising" s_is_rising f fd) (m_all : mg "all" = none) (m_zip : mg "zip" = none) : FnOk Pr w K mg base CX0 1 f fd ["row"] (spD P_is_rising) := by
  refine fn_ok F sc_is_rising (fun ds d h => by obtain ⟨row, rfl, rfl⟩ := h; rfl) fun cdv A outer s H E hr g ds d h => ?_
  obtain ⟨row, rfl, rfl⟩ := h
  exact st_one (s_ret (Ev.frozen (t_all g ((row.zip (cutT row (some (1 : Int)) none)).map fun z => ((ltL ltN) z.1 z.2)) m_all (LcB.ev (b_map (own := [("one", 1), ("other", 2)]) (gt := gTup K 2 (gCons (gName 1) (gCons (gName 2) gNil))) (eP (eT eN) (eT eN)) eB (row.zip (cutT row (some (1 : Int)) none)) (fun z => ((ltL ltN) z.1 z.2)) (fun z => [.val ((eT (eT eN)).f row), .val ((eT eN).f z.1), .val ((eT eN).f z.2)]) g (ti_zip (eT eN) (eT eN) row (cutT row (some (1 : Int)) none) m_zip (ev_nm (d := ((eT (eT eN)).f row)) 0) (t_sliceT (eT eN) row (ev_nm (d := ((eT (eT eN)).f row)) 0) (pv_some ev_int) pv_none) (sqeT _ _) (sqeT _ _) fl_f fl_f) (blkOk_by (by rfl)) (fun _ _ _ _ _ => pg_tup g.calm (pgs_cons (pg_name (i := 1) g.nd rfl (by first | exact Or.inl rfl | exact Or.inr rfl)) (pgs_cons (pg_name (i := 2) g.nd rfl (by first | exact Or.inl rfl | exact Or.inr rfl)) pgs_nil))) (fun _ _ => bd_tup (bds_cons bd_name (bds_cons bd_name bds_nil))) (fun _ _ _ _ _ z h_z => (ev_c (t_lt (OrdE.tup oN) g (ev_nm (d := ((eT eN).f z.1)) 1) (ev_nm (d := ((eT eN).f z.2)) 2)))))) (sqeL _ _))) (by first | rfl | (unfold is_rising; rfl) | (unfold is_rising; simp; done)))

def are_numbers (thing : (List Int)) (many : Int) : Bool :=
  (if ((!true) || (!decide ((thing.length : Int) = many))) = true then false else
  ((thing.map fun number => ((is_number number) && decide ((0 : Int) ≤ number))).all id))
def P_are_numbers (ds : List PyData) (d : PyData) : Prop := ∃ (thing : (List Int)) (many : Int), ds = [((eT eI).f thing), (eI.f many)] ∧ d = (eB.f (are_numbers thing many))
theorem sc_are_numbers : FnScope ["thing", "many", "number"] ["thing", "many"] (defScope s_are_numbers) := ⟨rfl, rfl, rfl, by decide +kernel, rfl, by decide +kernel, by decide +kernel⟩
theorem ok_are_numbers (F : FnP K "are_numbers" s_are_numbers f fd) (m_all : mg "all" = none) (m_isinstance : mg "isinstance" = none) (m_len : mg "len" = none) (m_tuple : mg "tuple" = none) (F_is_number : FnF Pr w K mg base "is_number" 1 ["value"] P_is_number) : FnOk Pr w K mg base CX0 2 f fd ["thing", "many"] (spD P_are_numbers) := by
  refine fn_ok F sc_are_numbers (fun ds d h => by obtain ⟨thing, many, rfl, rfl⟩ := h; rfl) fun cdv A outer s H E hr g ds d h => ?_
  obtain ⟨thing, many, rfl, rfl⟩ := h
  refine st_ifR (b := ((!true) || (!decide ((thing.length : Int) = many)))) (tv_pw (tw_or (tv_not (tv_of (bz := false) (Ev.cast (d' := .bool true) (ev_isi m_isinstance (ev_nm (d := ((eT eI).f thing)) 0) m_tuple (T := "tuple")) rfl))) (fun hc => (tw_or1 (tv_c (bz := false) (t_ne eI g (t_len eI thing m_len (ev_nm (d := ((eT eI).f thing)) 0) (sqeT _ _)) (ev_nm (d := (eI.f many)) 1))))))) (fun ht => ?_) (fun ht => ?_)
  · exact st_one (s_ret (Ev.frozen ev_bl) (by unfold are_numbers; first | (rw [if_pos ht] <;> rfl) | (dsimp only; rw [if_pos ht] <;> rfl) | (simp only [if_pos ht]; done) | (simp only [if_pos ht]; rfl)))
  · exact st_one (s_ret (Ev.frozen (t_all g (thing.map fun number => ((is_number number) && decide ((0 : Int) ≤ number))) m_all (LcB.ev (b_map (own := [("number", 2)]) (gt := gName 2) eI eB thing (fun number => ((is_number number) && decide ((0 : Int) ≤ number))) (fun number => [.val ((eT eI).f thing), .val (eI.f many), .val (eI.f number)]) g (ti_seq eI thing (ev_nm (d := ((eT eI).f thing)) 0) (sqeT _ _) fl_f) (blkOk_by (by rfl)) (fun _ _ _ _ _ => pg_name (i := 2) g.nd rfl (by first | exact Or.inl rfl | exact Or.inr rfl)) (fun _ _ => bd_name) (fun _ _ _ _ _ number h_number => (ev_and (ev_fn F_is_number (hr.mono (by decide)) (av_cons (ev_nm (d := (eI.f number)) 2) av_nil) ⟨number, rfl, rfl⟩) (fun hc2 => (ev_one (ev_c (cv_ge (ev_nm (d := (eI.f number)) 2) ev_int)))))))) (sqeL _ _))) (by unfold are_numbers; first | (rw [if_neg (ne_of_false ht)] <;> rfl) | (dsimp only; rw [if_neg (ne_of_false ht)] <;> rfl) | (simp only [if_neg (ne_of_false ht)]; done) | (simp only [if_neg (ne_of_false ht)]; rfl)))

def is_limits (rules : ((List Str) × (List (List Str)))) (thing : (List Int)) : Bool :=
  (are_numbers thing (rules.2.length : Int))
def P_is_limits (ds : List PyData) (d : PyData) : Prop := ∃ (b : Bool) (rules : ((List Str) × (List (List Str)))) (thing : (List Int)), ds = [((eQ b (eS b eN) (eS b (eS b eN))).f rules), ((eT eI).f thing)] ∧ d = (eB.f (is_limits rules thing))
theorem sc_is_limits : FnScope ["rules", "thing"] ["rules", "thing"] (defScope s_is_limits) := ⟨rfl, rfl, rfl, by decide +kernel, rfl, by decide +kernel, by decide +kernel⟩
theorem ok_is_limits (F : FnP K "is_limits" s_is_limits f fd) (m_len : mg "len" = none) (F_are_numbers : FnF Pr w K mg base "are_numbers" 2 ["thing", "many"] P_are_numbers) : FnOk Pr w K mg base CX0 3 f fd ["rules", "thing"] (spD P_is_limits) := by
  refine fn_ok F sc_is_limits (fun ds d h => by obtain ⟨b, rules, thing, rfl, rfl⟩ := h; rfl) fun cdv A outer s H E hr g ds d h => ?_
  obtain ⟨b, rules, thing, rfl, rfl⟩ := h
  exact st_one (s_ret (Ev.frozen (ev_fn F_are_numbers (hr.mono (by decide)) (av_cons (ev_nm (d := ((eT eI).f thing)) 1) (av_cons (t_len (eS b eN) rules.2 m_len (ev_ix (d := ((eS b (eS b eN)).f rules.2)) (ev_nm (d := ((eQ b (eS b eN) (eS b (eS b eN))).f rules)) 0) ev_int (sqS b _) rfl) (sqeS b _ _)) av_nil)) ⟨thing, (rules.2.length : Int), rfl, rfl⟩)) (by first | rfl | (unfold is_limits; rfl) | (unfold is_limits; simp; done)))

def is_demands (rules : ((List Str) × (List (List Str)))) (thing : (List Int)) : Bool :=
  (are_numbers thing (rules.1.length : Int))
def P_is_demands (ds : List PyData) (d : PyData) : Prop := ∃ (b : Bool) (rules : ((List Str) × (List (List Str)))) (thing : (List Int)), ds = [((eQ b (eS b eN) (eS b (eS b eN))).f rules), ((eT eI).f thing)] ∧ d = (eB.f (is_demands rules thing))
theorem sc_is_demands : FnScope ["rules", "thing"] ["rules", "thing"] (defScope s_is_demands) := ⟨rfl, rfl, rfl, by decide +kernel, rfl, by decide +kernel, by decide +kernel⟩
theorem ok_is_demands (F : FnP K "is_demands" s_is_demands f fd) (m_len : mg "len" = none) (F_are_numbers : FnF Pr w K mg base "are_numbers" 2 ["thing", "many"] P_are_numbers) : FnOk Pr w K mg base CX0 3 f fd ["rules", "thing"] (spD P_is_demands) := by
  refine fn_ok F sc_is_demands (fun ds d h => by obtain ⟨b, rules, thing, rfl, rfl⟩ := h; rfl) fun cdv A outer s H E hr g ds d h => ?_
  obtain ⟨b, rules, thing, rfl, rfl⟩ := h
  exact st_one (s_ret (Ev.frozen (ev_fn F_are_numbers (hr.mono (by decide)) (av_cons (ev_nm (d := ((eT eI).f thing)) 1) (av_cons (t_len eN rules.1 m_len (ev_ix (d := ((eS b eN).f rules.1)) (ev_nm (d := ((eQ b (eS b eN) (eS b (eS b eN))).f rules)) 0) ev_int (sqS b _) rfl) (sqeS b _ _)) av_nil)) ⟨thing, (rules.1.length : Int), rfl, rfl⟩)) (by first | rfl | (unfold is_demands; rfl) | (unfold is_demands; simp; done)))

def own_kinds (groups : (List (List Str))) : (List (List Str)) :=
  let every : (List (List Str)) := groups;
  (every.map fun own => (own.filter fun name => (decide (((every.map fun far => (decide (name ∈ far))).count true : Int) = (1 : Int)))))
def P_own_kinds (ds : List PyData) (d : PyData) : Prop := ∃ (b : Bool) (groups : (List (List Str))), ds = [((eS b (eS b eN)).f groups)] ∧ d = ((eT (eT eN)).f (own_kinds groups))
theorem sc_own_kinds : FnScope ["groups", "every", "name", "far", "own"] ["groups"] (defScope s_own_kinds) := ⟨rfl, rfl, rfl, by decide +kernel, rfl, by decide +kernel, by decide +kernel⟩
theorem ok_own_kinds (F : FnP K "own_kinds" s_own_kinds f fd) (m_tuple : mg "tuple" = none) (F_tupled : FnF Pr w K mg base "tupled" 7 ["value"] (P_tupled 6)) : FnOk Pr w K mg base CX0 8 f fd ["groups"] (spD P_own_kinds) := by
  refine fn_ok F sc_own_kinds (fun ds d h => by obtain ⟨b, groups, rfl, rfl⟩ := h; rfl) fun cdv A outer s H E hr g ds d h => ?_
  obtain ⟨b, groups, rfl, rfl⟩ := h
  refine st_letD (i := 1) groups (fun v => ((eT (eT eN)).f v)) (s_set (t_tupled F_tupled (hr.mono (by decide)) (tpS b (tpS b tpN)) (ev_nm (d := ((eS b (eS b eN)).f groups)) 0)) g) fun every e_every => ?_
  exact st_one (s_ret (Ev.frozen (t_tuple (eT eN) (every.map fun own => (own.filter fun name => (decide (((every.map fun far => (decide (name ∈ far))).count true : Int) = (1 : Int))))) m_tuple (LcB.ev (b_map (own := [("own", 4)]) (gt := gName 4) (eT eN) (eT eN) every (fun own => (own.filter fun name => (decide (((every.map fun far => (decide (name ∈ far))).count true : Int) = (1 : Int))))) (fun own => [.val ((eS b (eS b eN)).f groups), .val ((eT (eT eN)).f every), .no, .no, .val ((eT eN).f own)]) g (ti_seq (eT eN) every (ev_nm (d := ((eT (eT eN)).f every)) 1) (sqeT _ _) fl_f) (blkOk_by (by rfl)) (fun _ _ _ _ _ => pg_name (i := 4) g.nd rfl (by first | exact Or.inl rfl | exact Or.inr rfl)) (fun _ _ => bd_name) (fun _ _ _ _ _ own h_own => (t_tuple eN (own.filter fun name => (decide (((every.map fun far => (decide (name ∈ far))).count true : Int) = (1 : Int)))) m_tuple (LcB.ev (b_fil (own := [("name", 2)]) (gt := gName 2) eN own (fun name => (decide (((every.map fun far => (decide (name ∈ far))).count true : Int) = (1 : Int)))) (fun name => [.val ((eS b (eS b eN)).f groups), .val ((eT (eT eN)).f every), .val (eN.f name), .no, .val ((eT eN).f own)]) g (ti_seq eN own (ev_nm (d := ((eT eN).f own)) 4) (sqeT _ _) fl_f) (blkOk_by (by rfl)) (fun _ _ _ _ _ => pg_name (i := 2) g.nd rfl (by first | exact Or.inl rfl | exact Or.inr rfl)) (fun _ _ => bd_name) (fun _ _ _ _ _ name h_name => tsv_one (tv_c (bz := false) (t_eq eI g (t_countL eB (every.map fun far => (decide (name ∈ far))) g (LcB.ev (b_map (own := [("far", 3)]) (gt := gName 3) (eT eN) eB every (fun far => (decide (name ∈ far))) (fun far => [.val ((eS b (eS b eN)).f groups), .val ((eT (eT eN)).f every), .val (eN.f name), .val ((eT eN).f far), .val ((eT eN).f own)]) g (ti_seq (eT eN) every (ev_nm (d := ((eT (eT eN)).f every)) 1) (sqeT _ _) fl_f) (blkOk_by (by rfl)) (fun _ _ _ _ _ => pg_name (i := 3) g.nd rfl (by first | exact Or.inl rfl | exact Or.inr rfl)) (fun _ _ => bd_name) (fun _ _ _ _ _ far h_far => (ev_c (t_in eN g (ev_nm (d := (eN.f name)) 2) (ev_nm (d := ((eT eN).f far)) 3) (sqeT _ _)))))) ev_bl) ev_int))) (fun _ _ _ _ _ name h_name q_name => (ev_nm (d := (eN.f name)) 2)))) (sqeL _ _))))) (sqeL _ _))) (by subst e_every; first | rfl | (unfold own_kinds; rfl) | (unfold own_kinds; simp; done)))

def is_group_set (rules : ((List Str) × (List (List Str)))) (thing : (List (List Str))) : Bool :=
  let every : (List (List Str)) := rules.2;
  (true && (((thing.map fun own => (decide (own ∈ every))).all id) && (is_rising thing)))
def P_is_group_set (ds : List PyData) (d : PyData) : Prop := ∃ (b : Bool) (rules : ((List Str) × (List (List Str)))) (thing : (List (List Str))), ds = [((eQ b (eS b eN) (eS b (eS b eN))).f rules), ((eT (eT eN)).f thing)] ∧ d = (eB.f (is_group_set rules thing))
theorem sc_is_group_set : FnScope ["rules", "thing", "every", "own"] ["rules", "thing"] (defScope s_is_group_set) := ⟨rfl, rfl, rfl, by decide +kernel, rfl, by decide +kernel, by decide +kernel⟩
theorem ok_is_group_set (F : FnP K "is_group_set" s_is_group_set f fd) (m_all : mg "all" = none) (m_isinstance : mg "isinstance" = none) (m_tuple : mg "tuple" = none) (F_is_rising : FnF Pr w K mg base "is_rising" 1 ["row"] P_is_rising) (F_tupled : FnF Pr w K mg base "tupled" 7 ["value"] (P_tupled 6)) : FnOk Pr w K mg base CX0 8 f fd ["rules", "thing"] (spD P_is_group_set) := by
  refine fn_ok F sc_is_group_set (fun ds d h => by obtain ⟨b, rules, thing, rfl, rfl⟩ := h; rfl) fun cdv A outer s H E hr g ds d h => ?_
  obtain ⟨b, rules, thing, rfl, rfl⟩ := h
  refine st_letD (i := 2) rules.2 (fun v => ((eT (eT eN)).f v)) (s_set (t_tupled F_tupled (hr.mono (by decide)) (tpS b (tpS b tpN)) (ev_ix (d := ((eS b (eS b eN)).f rules.2)) (ev_nm (d := ((eQ b (eS b eN) (eS b (eS b eN))).f rules)) 0) ev_int (sqS b _) rfl)) g) fun every e_every => ?_
  exact st_one (s_ret (Ev.frozen (ev_and (Ev.cast (d' := .bool true) (ev_isi m_isinstance (ev_nm (d := ((eT (eT eN)).f thing)) 1) m_tuple (T := "tuple")) rfl) (fun hc2 => (ev_and (t_all g (thing.map fun own => (decide (own ∈ every))) m_all (LcB.ev (b_map (own := [("own", 3)]) (gt := gName 3) (eT eN) eB thing (fun own => (decide (own ∈ every))) (fun own => [.val ((eQ b (eS b eN) (eS b (eS b eN))).f rules), .val ((eT (eT eN)).f thing), .val ((eT (eT eN)).f every), .val ((eT eN).f own)]) g (ti_seq (eT eN) thing (ev_nm (d := ((eT (eT eN)).f thing)) 1) (sqeT _ _) fl_f) (blkOk_by (by rfl)) (fun _ _ _ _ _ => pg_name (i := 3) g.nd rfl (by first | exact Or.inl rfl | exact Or.inr rfl)) (fun _ _ => bd_name) (fun _ _ _ _ _ own h_own => (ev_c (t_in (eT eN) g (ev_nm (d := ((eT eN).f own)) 3) (ev_nm (d := ((eT (eT eN)).f every)) 2) (sqeT _ _)))))) (sqeL _ _)) (fun hc => (ev_one (ev_fn F_is_rising (hr.mono (by decide)) (av_cons (ev_nm (d := ((eT (eT eN)).f thing)) 1) av_nil) ⟨thing, rfl, rfl⟩))))))) (by subst e_every; first | rfl | (unfold is_group_set; rfl) | (unfold is_group_set; simp; done)))

def is_open (rules : ((List Str) × (List (List Str)))) (thing : (List (List Str))) : Bool :=
  ((is_group_set rules thing) && (((own_kinds thing).map fun own => decide ((0 : Int) < (own.length : Int))).all id))
def P_is_open (ds : List PyData) (d : PyData) : Prop := ∃ (b : Bool) (rules : ((List Str) × (List (List Str)))) (thing : (List (List Str))), ds = [((eQ b (eS b eN) (eS b (eS b eN))).f rules), ((eT (eT eN)).f thing)] ∧ d = (eB.f (is_open rules thing))
theorem sc_is_open : FnScope ["rules", "thing", "own"] ["rules", "thing"] (defScope s_is_open) := ⟨rfl, rfl, rfl, by decide +kernel, rfl, by decide +kernel, by decide +kernel⟩
theorem ok_is_open (F : FnP K "is_open" s_is_open f fd) (m_all : mg "all" = none) (m_len : mg "len" = none) (F_is_group_set : FnF Pr w K mg base "is_group_set" 8 ["rules", "thing"] P_is_group_set) (F_own_kinds : FnF Pr w K mg base "own_kinds" 8 ["groups"] P_own_kinds) : FnOk Pr w K mg base CX0 9 f fd ["rules", "thing"] (spD P_is_open) := by
  refine fn_ok F sc_is_open (fun ds d h => by obtain ⟨b, rules, thing, rfl, rfl⟩ := h; rfl) fun cdv A outer s H E hr g ds d h => ?_
  obtain ⟨b, rules, thing, rfl, rfl⟩ := h
  exact st_one (s_ret (Ev.frozen (ev_and (ev_fn F_is_group_set (hr.mono (by decide)) (av_cons (ev_nm (d := ((eQ b (eS b eN) (eS b (eS b eN))).f rules)) 0) (av_cons (ev_nm (d := ((eT (eT eN)).f thing)) 1) av_nil)) ⟨b, rules, thing, rfl, rfl⟩) (fun hc => (ev_one (t_all g ((own_kinds thing).map fun own => decide ((0 : Int) < (own.length : Int))) m_all (LcB.ev (b_map (own := [("own", 2)]) (gt := gName 2) (eT eN) eB (own_kinds thing) (fun own => decide ((0 : Int) < (own.length : Int))) (fun own => [.val ((eQ b (eS b eN) (eS b (eS b eN))).f rules), .val ((eT (eT eN)).f thing), .val ((eT eN).f own)]) g (ti_seq (eT eN) (own_kinds thing) (ev_fn F_own_kinds (hr.mono (by decide)) (av_cons (ev_nm (d := ((eT (eT eN)).f thing)) 1) av_nil) ⟨true, thing, rfl, rfl⟩) (sqeT _ _) fl_f) (blkOk_by (by rfl)) (fun _ _ _ _ _ => pg_name (i := 2) g.nd rfl (by first | exact Or.inl rfl | exact Or.inr rfl)) (fun _ _ => bd_name) (fun _ _ _ _ _ own h_own => (ev_c (cv_gt (t_len eN own m_len (ev_nm (d := ((eT eN).f own)) 2) (sqeT _ _)) ev_int))))) (sqeL _ _)))))) (by first | rfl | (unfold is_open; rfl) | (unfold is_open; simp; done)))

def open_sets (groups : (List (List Str))) : (List (List (List Str))) :=
  let found : (List (List (List Str))) := (([] : List (List Str)) :: ([] : List (List (List Str))));
  let found4 : (List (List (List Str))) := (groups).foldl (fun (found2 : (List (List (List Str)))) (group : (List Str)) => (let more : (List (List (List Str))) := (found2.map fun own => (own ++ (group :: ([] : List (List Str))))); let found3 : (List (List (List Str))) := (found2 ++ (more.filter fun own2 => (((own_kinds own2).map fun names => decide ((0 : Int) < (names.length : Int))).all id))); found3 : (List (List (List Str))))) found;
  found4
def P_open_sets (ds : List PyData) (d : PyData) : Prop := ∃ (groups : (List (List Str))), ds = [((eT (eT eN)).f groups)] ∧ groups.length ≤ 12 ∧ d = ((eL (eT (eT eN))).f (open_sets groups))
theorem sc_open_sets : FnScope ["groups", "found", "group", "more", "own", "names"] ["groups"] (defScope s_open_sets) := ⟨rfl, rfl, rfl, by decide +kernel, rfl, by decide +kernel, by decide +kernel⟩
theorem ok_open_sets (F : FnP K "open_sets" s_open_sets f fd) (m_all : mg "all" = none) (m_len : mg "len" = none) (F_own_kinds : FnF Pr w K mg base "own_kinds" 8 ["groups"] P_own_kinds) : FnOk Pr w K mg base CX0 9 f fd ["groups"] (spD P_open_sets) := by
  refine fn_ok F sc_open_sets (fun ds d h => by obtain ⟨groups, rfl, hp0, rfl⟩ := h; rfl) fun cdv A outer s H E hr g ds d h => ?_
  obtain ⟨groups, rfl, hp0, rfl⟩ := h
  refine st_letD (i := 1) (([] : List (List Str)) :: ([] : List (List (List Str)))) (fun v => ((eL (eT (eT eN))).f v)) (s_set (t_lstD (eT (eT eN)) (([] : List (List Str)) :: ([] : List (List (List Str)))) (t_avc (eT (eT eN)) ([] : List (List Str)) ([] : List (List (List Str))) (t_tupD (eT eN) [] av_nil (Nat.zero_le _)) av_nil) (Nat.le_of_ble_eq_true rfl)) g) fun found e_found => ?_
  refine st_fold g [2] groups (eT eN).f (fun (j : Slot × Slot × Slot × Slot) (u : (List (List (List Str)))) => [.val ((eT (eT eN)).f groups), .val ((eL (eT (eT eN))).f u), j.1, j.2.1, j.2.2.1, j.2.2.2]) (fun (found2 : (List (List (List Str)))) (group : (List Str)) => (let more : (List (List (List Str))) := (found2.map fun own => (own ++ (group :: ([] : List (List Str))))); let found3 : (List (List (List Str))) := (found2 ++ (more.filter fun own2 => (((own_kinds own2).map fun names => decide ((0 : Int) < (names.length : Int))).all id))); found3 : (List (List (List Str))))) found ((.no, .no, .no, .no) : Slot × Slot × Slot × Slot) (ti_seq (eT eN) groups (ev_nm (d := ((eT (eT eN)).f groups)) 0) (sqeT _ _) fl_f) (pg_name (i := 2) g.nd rfl (by first | exact Or.inl rfl | exact Or.inr rfl)) rfl (fun pre_group group post_group j1 found2 hx_group hu_group => ⟨_, bd_name, ?_⟩) fun j1' found4 e_found4 => ?_
  · refine st_letD (i := 3) (found2.map fun own => (own ++ (group :: ([] : List (List Str))))) (fun v => ((eL (eT (eT eN))).f v)) (s_setLc (b_map (own := [("own", 4)]) (gt := gName 4) (eT (eT eN)) (eT (eT eN)) found2 (fun own => (own ++ (group :: ([] : List (List Str))))) (fun own => [.val ((eT (eT eN)).f groups), .val ((eL (eT (eT eN))).f found2), .val ((eT eN).f group), j1.2.1, .val ((eT (eT eN)).f own), j1.2.2.2]) g (ti_seq (eT (eT eN)) found2 (ev_nm (d := ((eL (eT (eT eN))).f found2)) 1) (sqeL _ _) fl_f) (blkOk_by (by rfl)) (fun _ _ _ _ _ => pg_name (i := 4) g.nd rfl (by first | exact Or.inl rfl | exact Or.inr rfl)) (fun _ _ => bd_name) (fun _ _ _ _ _ own h_own => (t_tupD (eT eN) (own ++ (group :: ([] : List (List Str)))) (t_star (eT eN) own (group :: ([] : List (List Str))) (ev_nm (d := ((eT (eT eN)).f own)) 4) (sqeT _ _) (t_avc (eT eN) group ([] : List (List Str)) (ev_nm (d := ((eT eN).f group)) 2) av_nil)) (by subst e_found; exact open_len hu_group hx_group hp0 h_own)))) g) fun more e_more => ?_
    refine st_letD (i := 1) (found2 ++ (more.filter fun own2 => (((own_kinds own2).map fun names => decide ((0 : Int) < (names.length : Int))).all id))) (fun v => ((eL (eT (eT eN))).f v)) (s_set (t_catL (eT (eT eN)) found2 (more.filter fun own2 => (((own_kinds own2).map fun names => decide ((0 : Int) < (names.length : Int))).all id)) (ev_nm (d := ((eL (eT (eT eN))).f found2)) 1) (LcB.ev (b_fil (own := [("own", 4)]) (gt := gName 4) (eT (eT eN)) more (fun own2 => (((own_kinds own2).map fun names => decide ((0 : Int) < (names.length : Int))).all id)) (fun own2 => [.val ((eT (eT eN)).f groups), .val ((eL (eT (eT eN))).f found2), .val ((eT eN).f group), .val ((eL (eT (eT eN))).f more), .val ((eT (eT eN)).f own2), j1.2.2.2]) g (ti_seq (eT (eT eN)) more (ev_nm (d := ((eL (eT (eT eN))).f more)) 3) (sqeL _ _) fl_f) (blkOk_by (by rfl)) (fun _ _ _ _ _ => pg_name (i := 4) g.nd rfl (by first | exact Or.inl rfl | exact Or.inr rfl)) (fun _ _ => bd_name) (fun _ _ _ _ _ own2 h_own2 => tsv_one (tv_of (bz := false) (t_all g ((own_kinds own2).map fun names => decide ((0 : Int) < (names.length : Int))) m_all (LcB.ev (b_map (own := [("names", 5)]) (gt := gName 5) (eT eN) eB (own_kinds own2) (fun names => decide ((0 : Int) < (names.length : Int))) (fun names => [.val ((eT (eT eN)).f groups), .val ((eL (eT (eT eN))).f found2), .val ((eT eN).f group), .val ((eL (eT (eT eN))).f more), .val ((eT (eT eN)).f own2), .val ((eT eN).f names)]) g (ti_seq (eT eN) (own_kinds own2) (ev_fn F_own_kinds (hr.mono (by decide)) (av_cons (ev_nm (d := ((eT (eT eN)).f own2)) 4) av_nil) ⟨true, own2, rfl, rfl⟩) (sqeT _ _) fl_f) (blkOk_by (by rfl)) (fun _ _ _ _ _ => pg_name (i := 5) g.nd rfl (by first | exact Or.inl rfl | exact Or.inr rfl)) (fun _ _ => bd_name) (fun _ _ _ _ _ names h_names => (ev_c (cv_gt (t_len eN names m_len (ev_nm (d := ((eT eN).f names)) 5) (sqeT _ _)) ev_int))))) (sqeL _ _)))) (fun _ _ _ _ _ own2 h_own2 q_own2 => (ev_nm (d := ((eT (eT eN)).f own2)) 4)))) (by subst e_more e_found; exact open_cat hu_group hx_group hp0)) g) fun found3 e_found3 => ?_
    refine st_nil ?_; subst e_found3; subst e_more; exact ⟨(_, _, _, _), rfl⟩
  exact st_one (s_ret (Ev.frozen (ev_nm (d := ((eL (eT (eT eN))).f found4)) 1)) (by subst e_found4; subst e_found; first | rfl | (unfold open_sets; rfl) | (unfold open_sets; simp; done)))

def all_open (rules : ((List Str) × (List (List Str)))) : (List (List (List Str))) :=
  (srt (ltL (ltL ltN)) (open_sets rules.2))
def P_all_open (ds : List PyData) (d : PyData) : Prop := ∃ (b : Bool) (rules : ((List Str) × (List (List Str)))), ds = [((eQ b (eS b eN) (eS b (eS b eN))).f rules)] ∧ rules.2.length ≤ 12 ∧ d = ((eL (eT (eT eN))).f (all_open rules))
theorem sc_all_open : FnScope ["rules"] ["rules"] (defScope s_all_open) := ⟨rfl, rfl, rfl, by decide +kernel, rfl, by decide +kernel, by decide +kernel⟩
theorem ok_all_open (F : FnP K "all_open" s_all_open f fd) (m_sorted : mg "sorted" = none) (F_open_sets : FnF Pr w K mg base "open_sets" 9 ["groups"] P_open_sets) (F_tupled : FnF Pr w K mg base "tupled" 7 ["value"] (P_tupled 6)) : FnOk Pr w K mg base CX0 10 f fd ["rules"] (spD P_all_open) := by
  refine fn_ok F sc_all_open (fun ds d h => by obtain ⟨b, rules, rfl, hp0, rfl⟩ := h; rfl) fun cdv A outer s H E hr g ds d h => ?_
  obtain ⟨b, rules, rfl, hp0, rfl⟩ := h
  exact st_one (s_ret (Ev.frozen (t_sorted (OrdE.tup (OrdE.tup oN)) g (open_sets rules.2) m_sorted (ev_fn F_open_sets (hr.mono (by decide)) (av_cons (t_tupled F_tupled (hr.mono (by decide)) (tpS b (tpS b tpN)) (ev_ix (d := ((eS b (eS b eN)).f rules.2)) (ev_nm (d := ((eQ b (eS b eN) (eS b (eS b eN))).f rules)) 0) ev_int (sqS b _) rfl)) av_nil) ⟨rules.2, rfl, (by first | assumption | omega | decide | simp_all), rfl⟩) (.inl fun _ => ⟨_, rfl⟩))) (by first | rfl | (unfold all_open; rfl) | (unfold all_open; simp; done)))

def counted (rules : ((List Str) × (List (List Str)))) (groups : (List (List Str))) : (List Int) :=
  (rules.1.map fun name => (max (1 : Int) ((groups.map fun group => (if (decide (name ∈ group)) = true then (1 : Int) else 0)).sum)))
def P_counted (ds : List PyData) (d : PyData) : Prop := ∃ (b : Bool) (rules : ((List Str) × (List (List Str)))) (groups : (List (List Str))), ds = [((eQ b (eS b eN) (eS b (eS b eN))).f rules), ((eT (eT eN)).f groups)] ∧ d = ((eT eI).f (counted rules groups))
theorem sc_counted : FnScope ["rules", "groups", "group", "name"] ["rules", "groups"] (defScope s_counted) := ⟨rfl, rfl, rfl, by decide +kernel, rfl, by decide +kernel, by decide +kernel⟩
theorem ok_counted (F : FnP K "counted" s_counted f fd) (m_int : mg "int" = none) (m_max : mg "max" = none) (m_sum : mg "sum" = none) (m_tuple : mg "tuple" = none) : FnOk Pr w K mg base CX0 1 f fd ["rules", "groups"] (spD P_counted) := by
  refine fn_ok F sc_counted (fun ds d h => by obtain ⟨b, rules, groups, rfl, rfl⟩ := h; rfl) fun cdv A outer s H E hr g ds d h => ?_
  obtain ⟨b, rules, groups, rfl, rfl⟩ := h
  exact st_one (s_ret (Ev.frozen (t_tuple eI (rules.1.map fun name => (max (1 : Int) ((groups.map fun group => (if (decide (name ∈ group)) = true then (1 : Int) else 0)).sum))) m_tuple (LcB.ev (b_map (own := [("name", 3)]) (gt := gName 3) eN eI rules.1 (fun name => (max (1 : Int) ((groups.map fun group => (if (decide (name ∈ group)) = true then (1 : Int) else 0)).sum))) (fun name => [.val ((eQ b (eS b eN) (eS b (eS b eN))).f rules), .val ((eT (eT eN)).f groups), .no, .val (eN.f name)]) g (ti_seq eN rules.1 (ev_ix (d := ((eS b eN).f rules.1)) (ev_nm (d := ((eQ b (eS b eN) (eS b (eS b eN))).f rules)) 0) ev_int (sqS b _) rfl) (sqeS b _ _) fl_f) (blkOk_by (by rfl)) (fun _ _ _ _ _ => pg_name (i := 3) g.nd rfl (by first | exact Or.inl rfl | exact Or.inr rfl)) (fun _ _ => bd_name) (fun _ _ _ _ _ name h_name => (t_max2 g m_max ev_int (t_sum g (groups.map fun group => (if (decide (name ∈ group)) = true then (1 : Int) else 0)) m_sum (LcB.ev (b_map (own := [("group", 2)]) (gt := gName 2) (eT eN) eI groups (fun group => (if (decide (name ∈ group)) = true then (1 : Int) else 0)) (fun group => [.val ((eQ b (eS b eN) (eS b (eS b eN))).f rules), .val ((eT (eT eN)).f groups), .val ((eT eN).f group), .val (eN.f name)]) g (ti_seq (eT eN) groups (ev_nm (d := ((eT (eT eN)).f groups)) 1) (sqeT _ _) fl_f) (blkOk_by (by rfl)) (fun _ _ _ _ _ => pg_name (i := 2) g.nd rfl (by first | exact Or.inl rfl | exact Or.inr rfl)) (fun _ _ => bd_name) (fun _ _ _ _ _ group h_group => (t_intB m_int (ev_c (t_in eN g (ev_nm (d := (eN.f name)) 3) (ev_nm (d := ((eT eN).f group)) 2) (sqeT _ _))))))) (sqeL _ _)))))) (sqeL _ _))) (by first | rfl | (unfold counted; rfl) | (unfold counted; simp; done)))

theorem cnt_mul {rules : List Str × List (List Str)} {groups : List (List Str)} (h : groups.length ≤ 12) {i j : Int} (hi : i ∈ counted rules groups) : CMul i j := by
  obtain ⟨n, _, rfl⟩ := List.mem_map.mp hi
  have h1 : ∀ gs : List (List Str), 0 ≤ (gs.map fun group => if decide (n ∈ group) = true then (1 : Int) else 0).sum ∧ (gs.map fun group => if decide (n ∈ group) = true then (1 : Int) else 0).sum ≤ gs.length := by
    intro gs
    induction gs with
    | nil => simp
    | cons a t ih =>
      simp only [List.map_cons, List.sum_cons, List.length_cons]
      split <;> omega
  have := h1 groups
  exact cmul_l (by omega)

def cover_sum (rules : ((List Str) × (List (List Str)))) (lot : (List Int)) (groups : (List (List Str))) : Int :=
  ((((counted rules groups).zip lot).map fun z => (z.1 * z.2)).sum)
def P_cover_sum (ds : List PyData) (d : PyData) : Prop := ∃ (b : Bool) (rules : ((List Str) × (List (List Str)))) (lot : (List Int)) (groups : (List (List Str))), ds = [((eQ b (eS b eN) (eS b (eS b eN))).f rules), ((eT eI).f lot), ((eT (eT eN)).f groups)] ∧ groups.length ≤ 12 ∧ d = (eI.f (cover_sum rules lot groups))
theorem sc_cover_sum : FnScope ["rules", "lot", "groups", "times", "number"] ["rules", "lot", "groups"] (defScope s_cover_sum) := ⟨rfl, rfl, rfl, by decide +kernel, rfl, by decide +kernel, by decide +kernel⟩
theorem ok_cover_sum (F : FnP K "cover_sum" s_cover_sum f fd) (m_sum : mg "sum" = none) (m_zip : mg "zip" = none) (F_counted : FnF Pr w K mg base "counted" 1 ["rules", "groups"] P_counted) : FnOk Pr w K mg base CX0 2 f fd ["rules", "lot", "groups"] (spD P_cover_sum) := by
  refine fn_ok F sc_cover_sum (fun ds d h => by obtain ⟨b, rules, lot, groups, rfl, hp0, rfl⟩ := h; rfl) fun cdv A outer s H E hr g ds d h => ?_
  obtain ⟨b, rules, lot, groups, rfl, hp0, rfl⟩ := h
  exact st_one (s_ret (Ev.frozen (t_sum g (((counted rules groups).zip lot).map fun z => (z.1 * z.2)) m_sum (LcB.ev (b_map (own := [("times", 3), ("number", 4)]) (gt := gTup K 2 (gCons (gName 3) (gCons (gName 4) gNil))) (eP eI eI) eI ((counted rules groups).zip lot) (fun z => (z.1 * z.2)) (fun z => [.val ((eQ b (eS b eN) (eS b (eS b eN))).f rules), .val ((eT eI).f lot), .val ((eT (eT eN)).f groups), .val (eI.f z.1), .val (eI.f z.2)]) g (ti_zip eI eI (counted rules groups) lot m_zip (ev_fn F_counted (hr.mono (by decide)) (av_cons (ev_nm (d := ((eQ b (eS b eN) (eS b (eS b eN))).f rules)) 0) (av_cons (ev_nm (d := ((eT (eT eN)).f groups)) 2) av_nil)) ⟨b, rules, groups, rfl, rfl⟩) (ev_nm (d := ((eT eI).f lot)) 1) (sqeT _ _) (sqeT _ _) fl_f fl_f) (blkOk_by (by rfl)) (fun _ _ _ _ _ => pg_tup g.calm (pgs_cons (pg_name (i := 3) g.nd rfl (by first | exact Or.inl rfl | exact Or.inr rfl)) (pgs_cons (pg_name (i := 4) g.nd rfl (by first | exact Or.inl rfl | exact Or.inr rfl)) pgs_nil))) (fun _ _ => bd_tup (bds_cons bd_name (bds_cons bd_name bds_nil))) (fun _ _ _ _ _ z h_z => (ev_mul (ev_nm (d := (eI.f z.1)) 3) (ev_nm (d := (eI.f z.2)) 4) (by exact cnt_mul hp0 (List.of_mem_zip h_z).1))))) (sqeL _ _))) (by first | rfl | (unfold cover_sum; rfl) | (unfold cover_sum; simp; done)))

theorem all_open_len {rules : List Str × List (List Str)} (h : rules.2.length ≤ 12) {o : List (List Str)} (ho : o ∈ all_open rules) : o.length ≤ 12 := open_bnd rfl h o (srt_mem.mp ho)
theorem all_open_ne {rules : List Str × List (List Str)} : all_open rules ≠ [] := fun z => by
  have h : ([] : List (List Str)) ∈ all_open rules := srt_mem.mpr (open_nil rfl)
  rw [z] at h
  cases h

def greatest_beside (rules : ((List Str) × (List (List Str)))) (lot : (List Int)) : Int :=
  (maxL ltI (0 : Int) ((all_open rules).map fun groups => (cover_sum rules lot groups)))
def P_greatest_beside (ds : List PyData) (d : PyData) : Prop := ∃ (b : Bool) (rules : ((List Str) × (List (List Str)))) (lot : (List Int)), ds = [((eQ b (eS b eN) (eS b (eS b eN))).f rules), ((eT eI).f lot)] ∧ rules.2.length ≤ 12 ∧ d = (eI.f (greatest_beside rules lot))
theorem sc_greatest_beside : FnScope ["rules", "lot", "groups"] ["rules", "lot"] (defScope s_greatest_beside) := ⟨rfl, rfl, rfl, by decide +kernel, rfl, by decide +kernel, by decide +kernel⟩
theorem ok_greatest_beside (F : FnP K "greatest_beside" s_greatest_beside f fd) (m_max : mg "max" = none) (F_all_open : FnF Pr w K mg base "all_open" 10 ["rules"] P_all_open) (F_cover_sum : FnF Pr w K mg base "cover_sum" 2 ["rules", "lot", "groups"] P_cover_sum) : FnOk Pr w K mg base CX0 11 f fd ["rules", "lot"] (spD P_greatest_beside) := by
  refine fn_ok F sc_greatest_beside (fun ds d h => by obtain ⟨b, rules, lot, rfl, hp0, rfl⟩ := h; rfl) fun cdv A outer s H E hr g ds d h => ?_
  obtain ⟨b, rules, lot, rfl, hp0, rfl⟩ := h
  exact st_one (s_ret (Ev.frozen (t_max oI (0 : Int) g ((all_open rules).map fun groups => (cover_sum rules lot groups)) m_max (LcB.ev (b_map (own := [("groups", 2)]) (gt := gName 2) (eT (eT eN)) eI (all_open rules) (fun groups => (cover_sum rules lot groups)) (fun groups => [.val ((eQ b (eS b eN) (eS b (eS b eN))).f rules), .val ((eT eI).f lot), .val ((eT (eT eN)).f groups)]) g (ti_seq (eT (eT eN)) (all_open rules) (ev_fn F_all_open (hr.mono (by decide)) (av_cons (ev_nm (d := ((eQ b (eS b eN) (eS b (eS b eN))).f rules)) 0) av_nil) ⟨b, rules, rfl, (by first | assumption | omega | decide | simp_all), rfl⟩) (sqeL _ _) fl_f) (blkOk_by (by rfl)) (fun _ _ _ _ _ => pg_name (i := 2) g.nd rfl (by first | exact Or.inl rfl | exact Or.inr rfl)) (fun _ _ => bd_name) (fun _ _ _ _ _ groups h_groups => (ev_fn F_cover_sum (hr.mono (by decide)) (av_cons (ev_nm (d := ((eQ b (eS b eN) (eS b (eS b eN))).f rules)) 0) (av_cons (ev_nm (d := ((eT eI).f lot)) 1) (av_cons (ev_nm (d := ((eT (eT eN)).f groups)) 2) av_nil))) ⟨b, rules, lot, groups, rfl, (by exact all_open_len hp0 h_groups), rfl⟩)))) (sqeL _ _) (by exact fun z => all_open_ne (List.map_eq_nil_iff.mp z)))) (by first | rfl | (unfold greatest_beside; rfl) | (unfold greatest_beside; simp; done)))

def load_of (rules : ((List Str) × (List (List Str)))) (lot : (List Int)) (group : (List Str)) : Int :=
  ((((rules.1.zip lot).filter fun z => (decide (z.1 ∈ group))).map fun z => z.2).sum)
def P_load_of (ds : List PyData) (d : PyData) : Prop := ∃ (b : Bool) (rules : ((List Str) × (List (List Str)))) (lot : (List Int)) (group : (List Str)), ds = [((eQ b (eS b eN) (eS b (eS b eN))).f rules), ((eT eI).f lot), ((eT eN).f group)] ∧ d = (eI.f (load_of rules lot group))
theorem sc_load_of : FnScope ["rules", "lot", "group", "name", "number"] ["rules", "lot", "group"] (defScope s_load_of) := ⟨rfl, rfl, rfl, by decide +kernel, rfl, by decide +kernel, by decide +kernel⟩
theorem ok_load_of (F : FnP K "load_of" s_load_of f fd) (m_sum : mg "sum" = none) (m_zip : mg "zip" = none) : FnOk Pr w K mg base CX0 1 f fd ["rules", "lot", "group"] (spD P_load_of) := by
  refine fn_ok F sc_load_of (fun ds d h => by obtain ⟨b, rules, lot, group, rfl, rfl⟩ := h; rfl) fun cdv A outer s H E hr g ds d h => ?_
  obtain ⟨b, rules, lot, group, rfl, rfl⟩ := h
  exact st_one (s_ret (Ev.frozen (t_sum g (((rules.1.zip lot).filter fun z => (decide (z.1 ∈ group))).map fun z => z.2) m_sum (LcB.ev (b_lc (own := [("name", 3), ("number", 4)]) (gt := gTup K 2 (gCons (gName 3) (gCons (gName 4) gNil))) (eP eN eI) eI (rules.1.zip lot) (fun z => (decide (z.1 ∈ group))) (fun z => z.2) (fun z => [.val ((eQ b (eS b eN) (eS b (eS b eN))).f rules), .val ((eT eI).f lot), .val ((eT eN).f group), .val (eN.f z.1), .val (eI.f z.2)]) g (ti_zip eN eI rules.1 lot m_zip (ev_ix (d := ((eS b eN).f rules.1)) (ev_nm (d := ((eQ b (eS b eN) (eS b (eS b eN))).f rules)) 0) ev_int (sqS b _) rfl) (ev_nm (d := ((eT eI).f lot)) 1) (sqeS b _ _) (sqeT _ _) fl_f fl_f) (blkOk_by (by rfl)) (fun _ _ _ _ _ => pg_tup g.calm (pgs_cons (pg_name (i := 3) g.nd rfl (by first | exact Or.inl rfl | exact Or.inr rfl)) (pgs_cons (pg_name (i := 4) g.nd rfl (by first | exact Or.inl rfl | exact Or.inr rfl)) pgs_nil))) (fun _ _ => bd_tup (bds_cons bd_name (bds_cons bd_name bds_nil))) (fun _ _ _ _ _ z h_z => tsv_one (tv_c (bz := false) (t_in eN g (ev_nm (d := (eN.f z.1)) 3) (ev_nm (d := ((eT eN).f group)) 2) (sqeT _ _)))) (fun _ _ _ _ _ z h_z q_z => (ev_nm (d := (eI.f z.2)) 4)))) (sqeL _ _))) (by first | rfl | (unfold load_of; rfl) | (unfold load_of; simp; done)))

def loads_of (rules : ((List Str) × (List (List Str)))) (lot : (List Int)) : (List Int) :=
  (rules.2.map fun group => (load_of rules lot group))
def P_loads_of (ds : List PyData) (d : PyData) : Prop := ∃ (b : Bool) (rules : ((List Str) × (List (List Str)))) (lot : (List Int)), ds = [((eQ b (eS b eN) (eS b (eS b eN))).f rules), ((eT eI).f lot)] ∧ d = ((eL eI).f (loads_of rules lot))
theorem sc_loads_of : FnScope ["rules", "lot", "group"] ["rules", "lot"] (defScope s_loads_of) := ⟨rfl, rfl, rfl, by decide +kernel, rfl, by decide +kernel, by decide +kernel⟩
theorem ok_loads_of (F : FnP K "loads_of" s_loads_of f fd) (F_load_of : FnF Pr w K mg base "load_of" 1 ["rules", "lot", "group"] P_load_of) (F_tupled : FnF Pr w K mg base "tupled" 7 ["value"] (P_tupled 6)) : FnOk Pr w K mg base CX0 8 f fd ["rules", "lot"] (spD P_loads_of) := by
  refine fn_ok F sc_loads_of (fun ds d h => by obtain ⟨b, rules, lot, rfl, rfl⟩ := h; rfl) fun cdv A outer s H E hr g ds d h => ?_
  obtain ⟨b, rules, lot, rfl, rfl⟩ := h
  exact st_one (s_ret (Ev.frozen (LcB.ev (b_map (own := [("group", 2)]) (gt := gName 2) (eT eN) eI rules.2 (fun group => (load_of rules lot group)) (fun group => [.val ((eQ b (eS b eN) (eS b (eS b eN))).f rules), .val ((eT eI).f lot), .val ((eT eN).f group)]) g (ti_seq (eT eN) rules.2 (t_tupled F_tupled (hr.mono (by decide)) (tpS b (tpS b tpN)) (ev_ix (d := ((eS b (eS b eN)).f rules.2)) (ev_nm (d := ((eQ b (eS b eN) (eS b (eS b eN))).f rules)) 0) ev_int (sqS b _) rfl)) (sqeT _ _) fl_f) (blkOk_by (by rfl)) (fun _ _ _ _ _ => pg_name (i := 2) g.nd rfl (by first | exact Or.inl rfl | exact Or.inr rfl)) (fun _ _ => bd_name) (fun _ _ _ _ _ group h_group => (ev_fn F_load_of (hr.mono (by decide)) (av_cons (ev_nm (d := ((eQ b (eS b eN) (eS b (eS b eN))).f rules)) 0) (av_cons (ev_nm (d := ((eT eI).f lot)) 1) (av_cons (ev_nm (d := ((eT eN).f group)) 2) av_nil))) ⟨b, rules, lot, group, rfl, rfl⟩))))) (by first | rfl | (unfold loads_of; rfl) | (unfold loads_of; simp; done)))

theorem all_open_sub {rules : List Str × List (List Str)} {o : List (List Str)} (h : o ∈ all_open rules) : o.Sublist rules.2 ∧ (o = [] ∨ ((own_kinds o).map fun names => decide ((0 : Int) < (names.length : Int))).all id = true) := open_mem rfl o (srt_mem.mp h)
theorem zip_fst {β : Type} {a : List Str} {b : List β} (h : a.length = b.length) : (a.zip b).map (fun z => z.1) = a := List.map_fst_zip (by omega)
theorem zip_keys {β : Type} {a : List Str} {b : List β} (h : a.length = b.length) : ((a.zip b).map fun z => (z.1, z.2)).map (·.1) = a := by rw [List.map_map]; exact zip_fst h
theorem best_ne {rules : List Str × List (List Str)} {lot : List Int} {most : Int} (e : most = greatest_beside rules lot) : ((all_open rules).filter fun groups => decide (cover_sum rules lot groups = most)) ≠ [] := by
  have h := maxL_mem (lt := ltI) (d := (0 : Int)) (xs := (all_open rules).map fun groups => cover_sum rules lot groups) (fun z => all_open_ne (List.map_eq_nil_iff.mp z))
  obtain ⟨o, ho, eo⟩ := List.mem_map.mp h
  have : o ∈ (all_open rules).filter fun groups => decide (cover_sum rules lot groups = most) := List.mem_filter.mpr ⟨ho, by rw [e, decide_eq_true_eq]; exact eo⟩
  exact List.ne_nil_of_mem this
theorem ne_ix {α : Type} {xs : List α} (h : xs ≠ []) : -(xs.length : Int) ≤ 0 ∧ (0 : Int) < xs.length := by
  have := List.length_pos_iff.mpr h
  omega
theorem ixT0_mem {α : Type} {d : α} {xs : List α} (h : xs ≠ []) : ixT d xs 0 ∈ xs := by
  cases xs with
  | nil => exact absurd rfl h
  | cons x xs => exact List.mem_cons_self
theorem best_mem {rules : List Str × List (List Str)} {lot : List Int} {most : Int} {some : List (List Str)} (e : most = greatest_beside rules lot) (e2 : some = ixT ([] : List (List Str)) ((all_open rules).filter fun groups => decide (cover_sum rules lot groups = most)) (0 : Int)) : some ∈ all_open rules := by
  rw [e2]
  exact (List.mem_filter.mp (ixT0_mem (best_ne e))).1
theorem own_zip {o : List (List Str)} {z : List Str × List Str} (hz : z ∈ o.zip (own_kinds o)) : z.1 ∈ o ∧ z.2 ∈ own_kinds o ∧ ∀ n ∈ z.2, n ∈ z.1 := by
  refine ⟨(List.of_mem_zip hz).1, (List.of_mem_zip hz).2, ?_⟩
  unfold own_kinds at hz
  rw [List.zip_map_right, List.mem_map] at hz
  obtain ⟨⟨a, b⟩, hab, e⟩ := hz
  have : a = b := by
    obtain ⟨k, hk, ek⟩ := List.getElem_of_mem hab
    rw [List.getElem_zip] at ek
    cases ek
    rfl
  subst this
  subst e
  intro n hn
  exact (List.mem_filter.mp hn).1
theorem own_ne {rules : List Str × List (List Str)} {o : List (List Str)} (h : o ∈ all_open rules) {n : List Str} (hn : n ∈ own_kinds o) : n ≠ [] := by
  rcases (all_open_sub h).2 with e | e
  · subst e; cases hn
  · have := List.all_eq_true.mp e _ (List.mem_map_of_mem hn)
    intro z
    subst z
    simp at this
theorem own_ix {rules : List Str × List (List Str)} {o : List (List Str)} (h : o ∈ all_open rules) {z : List Str × List Str} {pre post : List (List Str × List Str)} (hx : o.zip (own_kinds o) = pre ++ z :: post) : -(z.2.length : Int) ≤ 0 ∧ (0 : Int) < z.2.length :=
  ne_ix (own_ne h (own_zip (z := z) (by rw [hx]; simp)).2.1)
theorem own_key {rules : List Str × List (List Str)} {o : List (List Str)} (hp4 : ∀ g ∈ rules.2, ∀ n ∈ g, n ∈ rules.1) (h : o ∈ all_open rules) {z : List Str × List Str} {pre post : List (List Str × List Str)} (hx : o.zip (own_kinds o) = pre ++ z :: post) {d : Str} : ixT d z.2 0 ∈ rules.1 := by
  have hz := own_zip (z := z) (by rw [hx]; simp)
  exact hp4 _ ((all_open_sub h).1.subset hz.1) _ (hz.2.2 _ (ixT0_mem (own_ne h hz.2.1)))

def beside_paper (rules : ((List Str) × (List (List Str)))) (lot : (List Int)) : ((List Int) × (List Int)) :=
  let most : Int := (greatest_beside rules lot);
  let some : (List (List Str)) := (ixT ([] : (List (List Str))) ((all_open rules).filter fun groups => (decide ((cover_sum rules lot groups) = most))) (0 : Int));
  let table : (List (Str × Int)) := ((rules.1.zip lot).map fun z => (z.1, z.2));
  let table6 : (List (Str × Int)) := (some).foldl (fun (table2 : (List (Str × Int))) (group : (List Str)) => (let table5 : (List (Str × Int)) := (group).foldl (fun (table3 : (List (Str × Int))) (name : Str) => (let table4 : (List (Str × Int)) := (setS table3 name (0 : Int)); table4 : (List (Str × Int)))) table2; table5 : (List (Str × Int)))) table;
  let table9 : (List (Str × Int)) := ((some.zip (own_kinds some))).foldl (fun (table7 : (List (Str × Int))) (z2 : ((List Str) × (List Str))) => (let table8 : (List (Str × Int)) := (setS table7 (ixT (Str.ofString "") z2.2 (0 : Int)) (load_of rules lot z2.1)); table8 : (List (Str × Int)))) table6;
  let other : (List Int) := (rules.1.map fun name2 => (lookD (0 : Int) table9 name2));
  let mine : (List Int) := (loads_of rules lot);
  let its : (List Int) := (loads_of rules other);
  let rows : (List ((List Str) × Int × Int)) := (rules.2.zip (mine.zip its));
  ((rows.map fun z3 => (if (decide (z3.1 ∈ some)) = true then z3.2.1 else ((z3.2.1 + z3.2.2) + (1 : Int)))), other)
def P_beside_paper (ds : List PyData) (d : PyData) : Prop := ∃ (b : Bool) (rules : ((List Str) × (List (List Str)))) (lot : (List Int)), ds = [((eQ b (eS b eN) (eS b (eS b eN))).f rules), ((eT eI).f lot)] ∧ rules.2.length ≤ 12 ∧ rules.1.length ≤ 12 ∧ rules.1.Nodup ∧ rules.1.length = lot.length ∧ (∀ g ∈ rules.2, ∀ n ∈ g, n ∈ rules.1) ∧ d = ((eP (eT eI) (eT eI)).f (beside_paper rules lot))
theorem sc_beside_paper : FnScope ["rules", "lot", "most", "some", "groups", "table", "name", "number", "group", "names", "other", "mine", "its", "rows", "near", "far"] ["rules", "lot"] (defScope s_beside_paper) := ⟨rfl, rfl, rfl, by decide +kernel, rfl, by decide +kernel, by decide +kernel⟩
theorem ok_beside_paper (F : FnP K "beside_paper" s_beside_paper f fd) (m_list : mg "list" = none) (m_tuple : mg "tuple" = none) (m_zip : mg "zip" = none) (F_all_open : FnF Pr w K mg base "all_open" 10 ["rules"] P_all_open) (F_cover_sum : FnF Pr w K mg base "cover_sum" 2 ["rules", "lot", "groups"] P_cover_sum) (F_greatest_beside : FnF Pr w K mg base "greatest_beside" 11 ["rules", "lot"] P_greatest_beside) (F_load_of : FnF Pr w K mg base "load_of" 1 ["rules", "lot", "group"] P_load_of) (F_loads_of : FnF Pr w K mg base "loads_of" 8 ["rules", "lot"] P_loads_of) (F_own_kinds : FnF Pr w K mg base "own_kinds" 8 ["groups"] P_own_kinds) (F_tupled : FnF Pr w K mg base "tupled" 7 ["value"] (P_tupled 6)) : FnOk Pr w K mg base CX0 12 f fd ["rules", "lot"] (spD P_beside_paper) := by
  refine fn_ok F sc_beside_paper (fun ds d h => by obtain ⟨b, rules, lot, rfl, hp0, hp1, hp2, hp3, hp4, rfl⟩ := h; rfl) fun cdv A outer s H E hr g ds d h => ?_
  obtain ⟨b, rules, lot, rfl, hp0, hp1, hp2, hp3, hp4, rfl⟩ := h
  refine st_letD (i := 2) (greatest_beside rules lot) (fun v => (eI.f v)) (s_set (ev_fn F_greatest_beside (hr.mono (by decide)) (av_cons (ev_nm (d := ((eQ b (eS b eN) (eS b (eS b eN))).f rules)) 0) (av_cons (ev_nm (d := ((eT eI).f lot)) 1) av_nil)) ⟨b, rules, lot, rfl, (by first | assumption | omega | decide | simp_all), rfl⟩) g) fun most e_most => ?_
  refine st_letD (i := 3) (ixT ([] : (List (List Str))) ((all_open rules).filter fun groups => (decide ((cover_sum rules lot groups) = most))) (0 : Int)) (fun v => ((eT (eT eN)).f v)) (s_set (t_ix (eT (eT eN)) ([] : (List (List Str))) ((all_open rules).filter fun groups => (decide ((cover_sum rules lot groups) = most))) (LcB.ev (b_fil (own := [("groups", 4)]) (gt := gName 4) (eT (eT eN)) (all_open rules) (fun groups => (decide ((cover_sum rules lot groups) = most))) (fun groups => [.val ((eQ b (eS b eN) (eS b (eS b eN))).f rules), .val ((eT eI).f lot), .val (eI.f most), .no, .val ((eT (eT eN)).f groups), .no, .no, .no, .no, .no, .no, .no, .no, .no, .no, .no]) g (ti_seq (eT (eT eN)) (all_open rules) (ev_fn F_all_open (hr.mono (by decide)) (av_cons (ev_nm (d := ((eQ b (eS b eN) (eS b (eS b eN))).f rules)) 0) av_nil) ⟨b, rules, rfl, (by first | assumption | omega | decide | simp_all), rfl⟩) (sqeL _ _) fl_f) (blkOk_by (by rfl)) (fun _ _ _ _ _ => pg_name (i := 4) g.nd rfl (by first | exact Or.inl rfl | exact Or.inr rfl)) (fun _ _ => bd_name) (fun _ _ _ _ _ groups h_groups => tsv_one (tv_c (bz := false) (t_eq eI g (ev_fn F_cover_sum (hr.mono (by decide)) (av_cons (ev_nm (d := ((eQ b (eS b eN) (eS b (eS b eN))).f rules)) 0) (av_cons (ev_nm (d := ((eT eI).f lot)) 1) (av_cons (ev_nm (d := ((eT (eT eN)).f groups)) 4) av_nil))) ⟨b, rules, lot, groups, rfl, (by exact all_open_len hp0 h_groups), rfl⟩) (ev_nm (d := (eI.f most)) 2)))) (fun _ _ _ _ _ groups h_groups q_groups => (ev_nm (d := ((eT (eT eN)).f groups)) 4)))) ev_int (sqeL _ _) (by first | exact own_ix (best_mem e_most e_some) hx_z2 | exact ne_ix (best_ne e_most))) g) fun some e_some => ?_
  refine st_letS (i := 5) ((rules.1.zip lot).map fun z => (z.1, z.2)) (fun v => .own (dS eI v)) (s_own (nw_dc [("name", 6), ("number", 7)] g (gt := gTup K 2 (gCons (gName 6) (gCons (gName 7) gNil))) eI (rules.1.zip lot) (eP eN eI).f (fun z => z.1) (fun z => z.2) (fun z => [.val ((eQ b (eS b eN) (eS b (eS b eN))).f rules), .val ((eT eI).f lot), .val (eI.f most), .val ((eT (eT eN)).f some), .no, .no, .val (eN.f z.1), .val (eI.f z.2), .no, .no, .no, .no, .no, .no, .no, .no]) (by rw [zip_fst hp3]; exact hp2) (ti_zip eN eI rules.1 lot m_zip (ev_ix (d := ((eS b eN).f rules.1)) (ev_nm (d := ((eQ b (eS b eN) (eS b (eS b eN))).f rules)) 0) ev_int (sqS b _) rfl) (ev_nm (d := ((eT eI).f lot)) 1) (sqeS b _ _) (sqeT _ _) fl_f fl_f) (blkOk_by (by rfl)) (fun _ _ _ _ _ => pg_tup g.calm (pgs_cons (pg_name (i := 6) g.nd rfl (by first | exact Or.inl rfl | exact Or.inr rfl)) (pgs_cons (pg_name (i := 7) g.nd rfl (by first | exact Or.inl rfl | exact Or.inr rfl)) pgs_nil))) (fun _ _ => bd_tup (bds_cons bd_name (bds_cons bd_name bds_nil))) (fun _ _ _ _ _ z h_z => (ev_nm (d := (eN.f z.1)) 6)) (fun _ _ _ _ _ z h_z => (ev_nm (d := (eI.f z.2)) 7))) g) fun table e_table => ?_
  refine st_fold g [8] some (eT eN).f (fun (j : Slot × Slot) (u : (List (Str × Int))) => [.val ((eQ b (eS b eN) (eS b (eS b eN))).f rules), .val ((eT eI).f lot), .val (eI.f most), .val ((eT (eT eN)).f some), .no, .own (dS eI u), j.1, .no, j.2, .no, .no, .no, .no, .no, .no, .no]) (fun (table2 : (List (Str × Int))) (group : (List Str)) => (let table5 : (List (Str × Int)) := (group).foldl (fun (table3 : (List (Str × Int))) (name : Str) => (let table4 : (List (Str × Int)) := (setS table3 name (0 : Int)); table4 : (List (Str × Int)))) table2; table5 : (List (Str × Int)))) table ((.no, .no) : Slot × Slot) (ti_seq (eT eN) some (ev_nm (d := ((eT (eT eN)).f some)) 3) (sqeT _ _) fl_f) (pg_name (i := 8) g.nd rfl (by first | exact Or.inl rfl | exact Or.inr rfl)) rfl (fun pre_group group post_group j1 table2 hx_group hu_group => ⟨_, bd_name, ?_⟩) fun j1' table6 e_table6 => ?_
  · refine st_fold g [6] group eN.f (fun (j : Slot) (u : (List (Str × Int))) => [.val ((eQ b (eS b eN) (eS b (eS b eN))).f rules), .val ((eT eI).f lot), .val (eI.f most), .val ((eT (eT eN)).f some), .no, .own (dS eI u), j, .no, .val ((eT eN).f group), .no, .no, .no, .no, .no, .no, .no]) (fun (table3 : (List (Str × Int))) (name : Str) => (let table4 : (List (Str × Int)) := (setS table3 name (0 : Int)); table4 : (List (Str × Int)))) table2 (j1.1 : Slot) (ti_seq eN group (ev_nm (d := ((eT eN).f group)) 8) (sqeT _ _) fl_f) (pg_name (i := 6) g.nd rfl (by first | exact Or.inl rfl | exact Or.inr rfl)) rfl (fun pre_name name post_name j2 table3 hx_name hu_name => ⟨_, bd_name, ?_⟩) fun j2' table5 e_table5 => ?_
    · refine st_letS (i := 5) (setS table3 name (0 : Int)) (fun v => .own (dS eI v)) (o_dput eI table3 name (0 : Int) g ev_int (ev_nm (d := (eN.f name)) 6) (by first | (rw [hu_name, fold_keys _ (fun t x => setS_keys _ _ _), hu_group, fold_keys _ (fun t x => fold_keys _ (fun t x => setS_keys _ _ _) _ _), e_table, zip_keys hp3]; exact hp4 group ((all_open_sub (best_mem e_most e_some)).1.subset (show group ∈ some by rw [hx_group]; simp)) name (show name ∈ group by rw [hx_name]; simp)) | (rw [hu_z2, fold_keys _ (fun t x => setS_keys _ _ _), e_table6, fold_keys _ (fun t x => fold_keys _ (fun t x => setS_keys _ _ _) _ _), e_table, zip_keys hp3]; exact own_key hp4 (best_mem e_most e_some) hx_z2)) (by first | (have := congrArg List.length (show table3.map (·.1) = rules.1 by rw [hu_name, fold_keys _ (fun t x => setS_keys _ _ _), hu_group, fold_keys _ (fun t x => fold_keys _ (fun t x => setS_keys _ _ _) _ _), e_table, zip_keys hp3]); rw [List.length_map] at this; omega) | (have := congrArg List.length (show table7.map (·.1) = rules.1 by rw [hu_z2, fold_keys _ (fun t x => setS_keys _ _ _), e_table6, fold_keys _ (fun t x => fold_keys _ (fun t x => setS_keys _ _ _) _ _), e_table, zip_keys hp3]); rw [List.length_map] at this; omega))) fun table4 e_table4 => ?_
      refine st_nil ?_; subst e_table4; exact ⟨_, rfl⟩
    refine st_nil ?_; subst e_table5; exact ⟨(_, _), rfl⟩
  refine st_fold g [8, 9] (some.zip (own_kinds some)) (eP (eT eN) (eT eN)).f (fun (j : Slot × Slot) (u : (List (Str × Int))) => [.val ((eQ b (eS b eN) (eS b (eS b eN))).f rules), .val ((eT eI).f lot), .val (eI.f most), .val ((eT (eT eN)).f some), .no, .own (dS eI u), j1'.1, .no, j.1, j.2, .no, .no, .no, .no, .no, .no]) (fun (table7 : (List (Str × Int))) (z2 : ((List Str) × (List Str))) => (let table8 : (List (Str × Int)) := (setS table7 (ixT (Str.ofString "") z2.2 (0 : Int)) (load_of rules lot z2.1)); table8 : (List (Str × Int)))) table6 ((j1'.2, .no) : Slot × Slot) (ti_zip (eT eN) (eT eN) some (own_kinds some) m_zip (ev_nm (d := ((eT (eT eN)).f some)) 3) (ev_fn F_own_kinds (hr.mono (by decide)) (av_cons (ev_nm (d := ((eT (eT eN)).f some)) 3) av_nil) ⟨true, some, rfl, rfl⟩) (sqeT _ _) (sqeT _ _) fl_f fl_f) (pg_tup g.calm (pgs_cons (pg_name (i := 8) g.nd rfl (by first | exact Or.inl rfl | exact Or.inr rfl)) (pgs_cons (pg_name (i := 9) g.nd rfl (by first | exact Or.inl rfl | exact Or.inr rfl)) pgs_nil))) rfl (fun pre_z2 z2 post_z2 j3 table7 hx_z2 hu_z2 => ⟨_, bd_tup (bds_cons bd_name (bds_cons bd_name bds_nil)), ?_⟩) fun j3' table9 e_table9 => ?_
  · refine st_letS (i := 5) (setS table7 (ixT (Str.ofString "") z2.2 (0 : Int)) (load_of rules lot z2.1)) (fun v => .own (dS eI v)) (o_dput eI table7 (ixT (Str.ofString "") z2.2 (0 : Int)) (load_of rules lot z2.1) g (ev_fn F_load_of (hr.mono (by decide)) (av_cons (ev_nm (d := ((eQ b (eS b eN) (eS b (eS b eN))).f rules)) 0) (av_cons (ev_nm (d := ((eT eI).f lot)) 1) (av_cons (ev_nm (d := ((eT eN).f z2.1)) 8) av_nil))) ⟨b, rules, lot, z2.1, rfl, rfl⟩) (t_ix eN (Str.ofString "") z2.2 (ev_nm (d := ((eT eN).f z2.2)) 9) ev_int (sqeT _ _) (by first | exact own_ix (best_mem e_most e_some) hx_z2 | exact ne_ix (best_ne e_most))) (by first | (rw [hu_name, fold_keys _ (fun t x => setS_keys _ _ _), hu_group, fold_keys _ (fun t x => fold_keys _ (fun t x => setS_keys _ _ _) _ _), e_table, zip_keys hp3]; exact hp4 group ((all_open_sub (best_mem e_most e_some)).1.subset (show group ∈ some by rw [hx_group]; simp)) name (show name ∈ group by rw [hx_name]; simp)) | (rw [hu_z2, fold_keys _ (fun t x => setS_keys _ _ _), e_table6, fold_keys _ (fun t x => fold_keys _ (fun t x => setS_keys _ _ _) _ _), e_table, zip_keys hp3]; exact own_key hp4 (best_mem e_most e_some) hx_z2)) (by first | (have := congrArg List.length (show table3.map (·.1) = rules.1 by rw [hu_name, fold_keys _ (fun t x => setS_keys _ _ _), hu_group, fold_keys _ (fun t x => fold_keys _ (fun t x => setS_keys _ _ _) _ _), e_table, zip_keys hp3]); rw [List.length_map] at this; omega) | (have := congrArg List.length (show table7.map (·.1) = rules.1 by rw [hu_z2, fold_keys _ (fun t x => setS_keys _ _ _), e_table6, fold_keys _ (fun t x => fold_keys _ (fun t x => setS_keys _ _ _) _ _), e_table, zip_keys hp3]); rw [List.length_map] at this; omega))) fun table8 e_table8 => ?_
    refine st_nil ?_; subst e_table8; exact ⟨(_, _), rfl⟩
  refine st_par2 (i := 10) (j := 11) (fun v => ((eT eI).f v)) (fun v => ((eL eI).f v)) (rules.1.map fun name2 => (lookD (0 : Int) table9 name2)) (loads_of rules lot) (Ev.thaw (t_tuple eI (rules.1.map fun name2 => (lookD (0 : Int) table9 name2)) m_tuple (LcB.ev (b_map (own := [("name", 6)]) (gt := gName 6) eN eI rules.1 (fun name2 => (lookD (0 : Int) table9 name2)) (fun name2 => [.val ((eQ b (eS b eN) (eS b (eS b eN))).f rules), .val ((eT eI).f lot), .val (eI.f most), .val ((eT (eT eN)).f some), .no, .own (dS eI table9), .val (eN.f name2), .no, j3'.1, j3'.2, .no, .no, .no, .no, .no, .no]) g (ti_seq eN rules.1 (ev_ix (d := ((eS b eN).f rules.1)) (ev_nm (d := ((eQ b (eS b eN) (eS b (eS b eN))).f rules)) 0) ev_int (sqS b _) rfl) (sqeS b _ _) (fl_t flN)) (blkOk_by (by rfl)) (fun _ _ _ _ _ => pg_name (i := 6) g.nd rfl (by first | exact Or.inl rfl | exact Or.inr rfl)) (fun _ _ => bd_name) (fun _ _ _ _ _ name2 h_name2 => (t_dget eI (0 : Int) table9 name2 g (ev_own (d := (dS eI table9)) 5) (ev_nm (d := (eN.f name2)) 6) (by rw [e_table9, fold_keys _ (fun t x => setS_keys _ _ _), e_table6, fold_keys _ (fun t x => fold_keys _ (fun t x => setS_keys _ _ _) _ _), e_table, zip_keys hp3]; exact h_name2))))) (sqeL _ _)) ((flT flI) _)) (ev_fn F_loads_of (hr.mono (by decide)) (av_cons (ev_nm (d := ((eQ b (eS b eN) (eS b (eS b eN))).f rules)) 0) (av_cons (ev_nm (d := ((eT eI).f lot)) 1) av_nil)) ⟨b, rules, lot, rfl, rfl⟩) g fun other mine e_other e_mine => ?_
  refine st_letD (i := 12) (loads_of rules other) (fun v => ((eL eI).f v)) (s_set (ev_fn F_loads_of (hr.mono (by decide)) (av_cons (ev_nm (d := ((eQ b (eS b eN) (eS b (eS b eN))).f rules)) 0) (av_cons (ev_nm (d := ((eT eI).f other)) 10) av_nil)) ⟨b, rules, other, rfl, rfl⟩) g) fun its e_its => ?_
  refine st_letD (i := 13) (rules.2.zip (mine.zip its)) (fun v => ((eL (eP3 (eT eN) eI eI)).f v)) (s_set (t_listZip3 (eT eN) eI eI rules.2 mine its g m_list m_zip (t_tupled F_tupled (hr.mono (by decide)) (tpS b (tpS b tpN)) (ev_ix (d := ((eS b (eS b eN)).f rules.2)) (ev_nm (d := ((eQ b (eS b eN) (eS b (eS b eN))).f rules)) 0) ev_int (sqS b _) rfl)) (ev_nm (d := ((eL eI).f mine)) 11) (ev_nm (d := ((eL eI).f its)) 12) (sqeT _ _) (sqeL _ _) (sqeL _ _) (by first | (rw [e_mine]; exact (List.length_map _).symm) | (rw [e_its]; exact (List.length_map _).symm)) (by first | (rw [e_mine]; exact (List.length_map _).symm) | (rw [e_its]; exact (List.length_map _).symm))) g) fun rows e_rows => ?_
  exact st_one (s_ret (Ev.frozen (ev_tup (av_cons (t_tuple eI (rows.map fun z3 => (if (decide (z3.1 ∈ some)) = true then z3.2.1 else ((z3.2.1 + z3.2.2) + (1 : Int)))) m_tuple (LcB.ev (b_map (own := [("group", 8), ("near", 14), ("far", 15)]) (gt := gTup K 3 (gCons (gName 8) (gCons (gName 14) (gCons (gName 15) gNil)))) (eP3 (eT eN) eI eI) eI rows (fun z3 => (if (decide (z3.1 ∈ some)) = true then z3.2.1 else ((z3.2.1 + z3.2.2) + (1 : Int)))) (fun z3 => [.val ((eQ b (eS b eN) (eS b (eS b eN))).f rules), .val ((eT eI).f lot), .val (eI.f most), .val ((eT (eT eN)).f some), .no, .own (dS eI table9), j1'.1, .no, .val ((eT eN).f z3.1), j3'.2, .val ((eT eI).f other), .val ((eL eI).f mine), .val ((eL eI).f its), .val ((eL (eP3 (eT eN) eI eI)).f rows), .val (eI.f z3.2.1), .val (eI.f z3.2.2)]) g (ti_seq (eP3 (eT eN) eI eI) rows (ev_nm (d := ((eL (eP3 (eT eN) eI eI)).f rows)) 13) (sqeL _ _) fl_f) (blkOk_by (by rfl)) (fun _ _ _ _ _ => pg_tup g.calm (pgs_cons (pg_name (i := 8) g.nd rfl (by first | exact Or.inl rfl | exact Or.inr rfl)) (pgs_cons (pg_name (i := 14) g.nd rfl (by first | exact Or.inl rfl | exact Or.inr rfl)) (pgs_cons (pg_name (i := 15) g.nd rfl (by first | exact Or.inl rfl | exact Or.inr rfl)) pgs_nil)))) (fun _ _ => bd_tup (bds_cons bd_name (bds_cons bd_name (bds_cons bd_name bds_nil)))) (fun _ _ _ _ _ z3 h_z3 => (t_if eI (tv_c (bz := false) (t_in (eT eN) g (ev_nm (d := ((eT eN).f z3.1)) 8) (ev_nm (d := ((eT (eT eN)).f some)) 3) (sqeT _ _))) (fun hc => (ev_nm (d := (eI.f z3.2.1)) 14)) (fun hc => (ev_add (ev_add (ev_nm (d := (eI.f z3.2.1)) 14) (ev_nm (d := (eI.f z3.2.2)) 15)) ev_int)))))) (sqeL _ _)) (av_cons (ev_nm (d := ((eT eI).f other)) 10) av_nil)) (Nat.le_of_ble_eq_true rfl))) (by subst e_rows; subst e_its; subst e_mine; subst e_other; subst e_table9; subst e_table6; subst e_table; subst e_some; subst e_most; first | rfl | (unfold beside_paper; rfl) | (unfold beside_paper; simp; done)))

def keeps_all (rules : ((List Str) × (List (List Str)))) (limits : (List Int)) (lot : (List Int)) : Bool :=
  ((((loads_of rules lot).zip limits).map fun z => decide (z.1 ≤ z.2)).all id)
def P_keeps_all (ds : List PyData) (d : PyData) : Prop := ∃ (b : Bool) (rules : ((List Str) × (List (List Str)))) (limits : (List Int)) (lot : (List Int)), ds = [((eQ b (eS b eN) (eS b (eS b eN))).f rules), ((eT eI).f limits), ((eT eI).f lot)] ∧ d = (eB.f (keeps_all rules limits lot))
theorem sc_keeps_all : FnScope ["rules", "limits", "lot", "load", "limit"] ["rules", "limits", "lot"] (defScope s_keeps_all) := ⟨rfl, rfl, rfl, by decide +kernel, rfl, by decide +kernel, by decide +kernel⟩
theorem ok_keeps_all (F : FnP K "keeps_all" s_keeps_all f fd) (m_all : mg "all" = none) (m_zip : mg "zip" = none) (F_loads_of : FnF Pr w K mg base "loads_of" 8 ["rules", "lot"] P_loads_of) : FnOk Pr w K mg base CX0 9 f fd ["rules", "limits", "lot"] (spD P_keeps_all) := by
  refine fn_ok F sc_keeps_all (fun ds d h => by obtain ⟨b, rules, limits, lot, rfl, rfl⟩ := h; rfl) fun cdv A outer s H E hr g ds d h => ?_
  obtain ⟨b, rules, limits, lot, rfl, rfl⟩ := h
  exact st_one (s_ret (Ev.frozen (t_all g (((loads_of rules lot).zip limits).map fun z => decide (z.1 ≤ z.2)) m_all (LcB.ev (b_map (own := [("load", 3), ("limit", 4)]) (gt := gTup K 2 (gCons (gName 3) (gCons (gName 4) gNil))) (eP eI eI) eB ((loads_of rules lot).zip limits) (fun z => decide (z.1 ≤ z.2)) (fun z => [.val ((eQ b (eS b eN) (eS b (eS b eN))).f rules), .val ((eT eI).f limits), .val ((eT eI).f lot), .val (eI.f z.1), .val (eI.f z.2)]) g (ti_zip eI eI (loads_of rules lot) limits m_zip (ev_fn F_loads_of (hr.mono (by decide)) (av_cons (ev_nm (d := ((eQ b (eS b eN) (eS b (eS b eN))).f rules)) 0) (av_cons (ev_nm (d := ((eT eI).f lot)) 2) av_nil)) ⟨b, rules, lot, rfl, rfl⟩) (ev_nm (d := ((eT eI).f limits)) 1) (sqeL _ _) (sqeT _ _) fl_f fl_f) (blkOk_by (by rfl)) (fun _ _ _ _ _ => pg_tup g.calm (pgs_cons (pg_name (i := 3) g.nd rfl (by first | exact Or.inl rfl | exact Or.inr rfl)) (pgs_cons (pg_name (i := 4) g.nd rfl (by first | exact Or.inl rfl | exact Or.inr rfl)) pgs_nil))) (fun _ _ => bd_tup (bds_cons bd_name (bds_cons bd_name bds_nil))) (fun _ _ _ _ _ z h_z => (ev_c (cv_le (ev_nm (d := (eI.f z.1)) 3) (ev_nm (d := (eI.f z.2)) 4)))))) (sqeL _ _))) (by first | rfl | (unfold keeps_all; rfl) | (unfold keeps_all; simp; done)))

def filled (rules : ((List Str) × (List (List Str)))) (limits : (List Int)) (lot : (List Int)) : (List (List Str)) :=
  (((rules.2.zip ((loads_of rules lot).zip limits)).filter fun z => decide (z.2.2 ≤ z.2.1)).map fun z => z.1)
def P_filled (ds : List PyData) (d : PyData) : Prop := ∃ (b : Bool) (rules : ((List Str) × (List (List Str)))) (limits : (List Int)) (lot : (List Int)), ds = [((eQ b (eS b eN) (eS b (eS b eN))).f rules), ((eT eI).f limits), ((eT eI).f lot)] ∧ d = ((eL (eT eN)).f (filled rules limits lot))
theorem sc_filled : FnScope ["rules", "limits", "lot", "group", "load", "limit"] ["rules", "limits", "lot"] (defScope s_filled) := ⟨rfl, rfl, rfl, by decide +kernel, rfl, by decide +kernel, by decide +kernel⟩
theorem ok_filled (F : FnP K "filled" s_filled f fd) (m_zip : mg "zip" = none) (F_loads_of : FnF Pr w K mg base "loads_of" 8 ["rules", "lot"] P_loads_of) (F_tupled : FnF Pr w K mg base "tupled" 7 ["value"] (P_tupled 6)) : FnOk Pr w K mg base CX0 9 f fd ["rules", "limits", "lot"] (spD P_filled) := by
  refine fn_ok F sc_filled (fun ds d h => by obtain ⟨b, rules, limits, lot, rfl, rfl⟩ := h; rfl) fun cdv A outer s H E hr g ds d h => ?_
  obtain ⟨b, rules, limits, lot, rfl, rfl⟩ := h
  exact st_one (s_ret (Ev.frozen (LcB.ev (b_lc (own := [("group", 3), ("load", 4), ("limit", 5)]) (gt := gTup K 3 (gCons (gName 3) (gCons (gName 4) (gCons (gName 5) gNil)))) (eP3 (eT eN) eI eI) (eT eN) (rules.2.zip ((loads_of rules lot).zip limits)) (fun z => decide (z.2.2 ≤ z.2.1)) (fun z => z.1) (fun z => [.val ((eQ b (eS b eN) (eS b (eS b eN))).f rules), .val ((eT eI).f limits), .val ((eT eI).f lot), .val ((eT eN).f z.1), .val (eI.f z.2.1), .val (eI.f z.2.2)]) g (ti_zip3 (eT eN) eI eI rules.2 (loads_of rules lot) limits m_zip (t_tupled F_tupled (hr.mono (by decide)) (tpS b (tpS b tpN)) (ev_ix (d := ((eS b (eS b eN)).f rules.2)) (ev_nm (d := ((eQ b (eS b eN) (eS b (eS b eN))).f rules)) 0) ev_int (sqS b _) rfl)) (ev_fn F_loads_of (hr.mono (by decide)) (av_cons (ev_nm (d := ((eQ b (eS b eN) (eS b (eS b eN))).f rules)) 0) (av_cons (ev_nm (d := ((eT eI).f lot)) 2) av_nil)) ⟨b, rules, lot, rfl, rfl⟩) (ev_nm (d := ((eT eI).f limits)) 1) (sqeT _ _) (sqeL _ _) (sqeT _ _) fl_f fl_f fl_f) (blkOk_by (by rfl)) (fun _ _ _ _ _ => pg_tup g.calm (pgs_cons (pg_name (i := 3) g.nd rfl (by first | exact Or.inl rfl | exact Or.inr rfl)) (pgs_cons (pg_name (i := 4) g.nd rfl (by first | exact Or.inl rfl | exact Or.inr rfl)) (pgs_cons (pg_name (i := 5) g.nd rfl (by first | exact Or.inl rfl | exact Or.inr rfl)) pgs_nil)))) (fun _ _ => bd_tup (bds_cons bd_name (bds_cons bd_name (bds_cons bd_name bds_nil)))) (fun _ _ _ _ _ z h_z => tsv_one (tv_c (bz := false) (cv_ge (ev_nm (d := (eI.f z.2.1)) 4) (ev_nm (d := (eI.f z.2.2)) 5)))) (fun _ _ _ _ _ z h_z q_z => (ev_nm (d := ((eT eN).f z.1)) 3))))) (by first | rfl | (unfold filled; rfl) | (unfold filled; simp; done)))

def lacking (rules : ((List Str) × (List (List Str)))) (lot : (List Int)) (other : (List Int)) : (List Str) :=
  (((rules.1.zip (lot.zip other)).filter fun z => decide (z.2.1 < z.2.2)).map fun z => z.1)
def P_lacking (ds : List PyData) (d : PyData) : Prop := ∃ (b : Bool) (rules : ((List Str) × (List (List Str)))) (lot : (List Int)) (other : (List Int)), ds = [((eQ b (eS b eN) (eS b (eS b eN))).f rules), ((eT eI).f lot), ((eT eI).f other)] ∧ d = ((eL eN).f (lacking rules lot other))
theorem sc_lacking : FnScope ["rules", "lot", "other", "name", "mine", "its"] ["rules", "lot", "other"] (defScope s_lacking) := ⟨rfl, rfl, rfl, by decide +kernel, rfl, by decide +kernel, by decide +kernel⟩
theorem ok_lacking (F : FnP K "lacking" s_lacking f fd) (m_zip : mg "zip" = none) : FnOk Pr w K mg base CX0 1 f fd ["rules", "lot", "other"] (spD P_lacking) := by
  refine fn_ok F sc_lacking (fun ds d h => by obtain ⟨b, rules, lot, other, rfl, rfl⟩ := h; rfl) fun cdv A outer s H E hr g ds d h => ?_
  obtain ⟨b, rules, lot, other, rfl, rfl⟩ := h
  exact st_one (s_ret (Ev.frozen (LcB.ev (b_lc (own := [("name", 3), ("mine", 4), ("its", 5)]) (gt := gTup K 3 (gCons (gName 3) (gCons (gName 4) (gCons (gName 5) gNil)))) (eP3 eN eI eI) eN (rules.1.zip (lot.zip other)) (fun z => decide (z.2.1 < z.2.2)) (fun z => z.1) (fun z => [.val ((eQ b (eS b eN) (eS b (eS b eN))).f rules), .val ((eT eI).f lot), .val ((eT eI).f other), .val (eN.f z.1), .val (eI.f z.2.1), .val (eI.f z.2.2)]) g (ti_zip3 eN eI eI rules.1 lot other m_zip (ev_ix (d := ((eS b eN).f rules.1)) (ev_nm (d := ((eQ b (eS b eN) (eS b (eS b eN))).f rules)) 0) ev_int (sqS b _) rfl) (ev_nm (d := ((eT eI).f lot)) 1) (ev_nm (d := ((eT eI).f other)) 2) (sqeS b _ _) (sqeT _ _) (sqeT _ _) fl_f fl_f fl_f) (blkOk_by (by rfl)) (fun _ _ _ _ _ => pg_tup g.calm (pgs_cons (pg_name (i := 3) g.nd rfl (by first | exact Or.inl rfl | exact Or.inr rfl)) (pgs_cons (pg_name (i := 4) g.nd rfl (by first | exact Or.inl rfl | exact Or.inr rfl)) (pgs_cons (pg_name (i := 5) g.nd rfl (by first | exact Or.inl rfl | exact Or.inr rfl)) pgs_nil)))) (fun _ _ => bd_tup (bds_cons bd_name (bds_cons bd_name (bds_cons bd_name bds_nil)))) (fun _ _ _ _ _ z h_z => tsv_one (tv_c (bz := false) (cv_gt (ev_nm (d := (eI.f z.2.2)) 5) (ev_nm (d := (eI.f z.2.1)) 4)))) (fun _ _ _ _ _ z h_z q_z => (ev_nm (d := (eN.f z.1)) 3))))) (by first | rfl | (unfold lacking; rfl) | (unfold lacking; simp; done)))

def is_covered (groups : (List (List Str))) (names : (List Str)) : Bool :=
  ((names.map fun name => ((groups.map fun group => (decide (name ∈ group))).any id)).all id)
def P_is_covered (ds : List PyData) (d : PyData) : Prop := ∃ (b : Bool) (groups : (List (List Str))) (names : (List Str)), ds = [((eS b (eT eN)).f groups), ((eL eN).f names)] ∧ d = (eB.f (is_covered groups names))
theorem sc_is_covered : FnScope ["groups", "names", "group", "name"] ["groups", "names"] (defScope s_is_covered) := ⟨rfl, rfl, rfl, by decide +kernel, rfl, by decide +kernel, by decide +kernel⟩
theorem ok_is_covered (F : FnP K "is_covered" s_is_covered f fd) (m_all : mg "all" = none) (m_any : mg "any" = none) : FnOk Pr w K mg base CX0 1 f fd ["groups", "names"] (spD P_is_covered) := by
  refine fn_ok F sc_is_covered (fun ds d h => by obtain ⟨b, groups, names, rfl, rfl⟩ := h; rfl) fun cdv A outer s H E hr g ds d h => ?_
  obtain ⟨b, groups, names, rfl, rfl⟩ := h
  exact st_one (s_ret (Ev.frozen (t_all g (names.map fun name => ((groups.map fun group => (decide (name ∈ group))).any id)) m_all (LcB.ev (b_map (own := [("name", 3)]) (gt := gName 3) eN eB names (fun name => ((groups.map fun group => (decide (name ∈ group))).any id)) (fun name => [.val ((eS b (eT eN)).f groups), .val ((eL eN).f names), .no, .val (eN.f name)]) g (ti_seq eN names (ev_nm (d := ((eL eN).f names)) 1) (sqeL _ _) fl_f) (blkOk_by (by rfl)) (fun _ _ _ _ _ => pg_name (i := 3) g.nd rfl (by first | exact Or.inl rfl | exact Or.inr rfl)) (fun _ _ => bd_name) (fun _ _ _ _ _ name h_name => (t_any g (groups.map fun group => (decide (name ∈ group))) m_any (LcB.ev (b_map (own := [("group", 2)]) (gt := gName 2) (eT eN) eB groups (fun group => (decide (name ∈ group))) (fun group => [.val ((eS b (eT eN)).f groups), .val ((eL eN).f names), .val ((eT eN).f group), .val (eN.f name)]) g (ti_seq (eT eN) groups (ev_nm (d := ((eS b (eT eN)).f groups)) 0) (sqeS b _ _) fl_f) (blkOk_by (by rfl)) (fun _ _ _ _ _ => pg_name (i := 2) g.nd rfl (by first | exact Or.inl rfl | exact Or.inr rfl)) (fun _ _ => bd_name) (fun _ _ _ _ _ group h_group => (ev_c (t_in eN g (ev_nm (d := (eN.f name)) 3) (ev_nm (d := ((eT eN).f group)) 2) (sqeT _ _)))))) (sqeL _ _))))) (sqeL _ _))) (by first | rfl | (unfold is_covered; rfl) | (unfold is_covered; simp; done)))

def is_beside (rules : ((List Str) × (List (List Str)))) (lot : (List Int)) (thing : ((List Int) × (List Int))) : Bool :=
  (if ((!true) || ((!decide ((2 : Int) = (2 : Int))) || (!(is_limits rules thing.1)))) = true then false else
  let limits : (List Int) := thing.1;
  let other : (List Int) := thing.2;
  (if ((!(is_demands rules other)) || ((!(keeps_all rules limits lot)) || (!(keeps_all rules limits other)))) = true then false else
  (if (!(is_covered (filled rules limits lot) (lacking rules lot other))) = true then false else
  (decide ((other.sum) = (greatest_beside rules lot))))))
def P_is_beside (ds : List PyData) (d : PyData) : Prop := ∃ (b : Bool) (rules : ((List Str) × (List (List Str)))) (lot : (List Int)) (thing : ((List Int) × (List Int))), ds = [((eQ b (eS b eN) (eS b (eS b eN))).f rules), ((eT eI).f lot), ((eP (eT eI) (eT eI)).f thing)] ∧ rules.2.length ≤ 12 ∧ d = (eB.f (is_beside rules lot thing))
theorem sc_is_beside : FnScope ["rules", "lot", "thing", "limits", "other"] ["rules", "lot", "thing"] (defScope s_is_beside) := ⟨rfl, rfl, rfl, by decide +kernel, rfl, by decide +kernel, by decide +kernel⟩
theorem ok_is_beside (F : FnP K "is_beside" s_is_beside f fd) (m_isinstance : mg "isinstance" = none) (m_len : mg "len" = none) (m_sum : mg "sum" = none) (m_tuple : mg "tuple" = none) (g_PAIR : ∃ t, mg "PAIR" = some (.int 2 t)) (F_filled : FnF Pr w K mg base "filled" 9 ["rules", "limits", "lot"] P_filled) (F_greatest_beside : FnF Pr w K mg base "greatest_beside" 11 ["rules", "lot"] P_greatest_beside) (F_is_covered : FnF Pr w K mg base "is_covered" 1 ["groups", "names"] P_is_covered) (F_is_demands : FnF Pr w K mg base "is_demands" 3 ["rules", "thing"] P_is_demands) (F_is_limits : FnF Pr w K mg base "is_limits" 3 ["rules", "thing"] P_is_limits) (F_keeps_all : FnF Pr w K mg base "keeps_all" 9 ["rules", "limits", "lot"] P_keeps_all) (F_lacking : FnF Pr w K mg base "lacking" 1 ["rules", "lot", "other"] P_lacking) : FnOk Pr w K mg base CX0 12 f fd ["rules", "lot", "thing"] (spD P_is_beside) := by
  refine fn_ok F sc_is_beside (fun ds d h => by obtain ⟨b, rules, lot, thing, rfl, hp0, rfl⟩ := h; rfl) fun cdv A outer s H E hr g ds d h => ?_
  obtain ⟨b, rules, lot, thing, rfl, hp0, rfl⟩ := h
  refine st_ifR (b := ((!true) || ((!decide ((2 : Int) = (2 : Int))) || (!(is_limits rules thing.1))))) (tv_pw (tw_or (tv_not (tv_of (bz := false) (Ev.cast (d' := .bool true) (ev_isi m_isinstance (ev_nm (d := ((eP (eT eI) (eT eI)).f thing)) 2) m_tuple (T := "tuple")) rfl))) (fun hc => (tw_or (tv_c (bz := false) (t_ne eI g (t_len2 m_len (ev_nm (d := ((eP (eT eI) (eT eI)).f thing)) 2) (sqT _)) (ev_gint g_PAIR))) (fun hc2 => (tw_or1 (tv_not (tv_of (bz := false) (ev_fn F_is_limits (hr.mono (by decide)) (av_cons (ev_nm (d := ((eQ b (eS b eN) (eS b (eS b eN))).f rules)) 0) (av_cons (ev_ix (d := ((eT eI).f thing.1)) (ev_nm (d := ((eP (eT eI) (eT eI)).f thing)) 2) ev_int (sqT _) rfl) av_nil)) ⟨b, rules, thing.1, rfl, rfl⟩))))))))) (fun ht => ?_) (fun ht => ?_)
  · exact st_one (s_ret (Ev.frozen ev_bl) (by unfold is_beside; first | (rw [if_pos ht] <;> rfl) | (dsimp only; rw [if_pos ht] <;> rfl) | (simp only [if_pos ht]; done) | (simp only [if_pos ht]; rfl)))
  · refine st_tup2 (i := 3) (j := 4) (eT eI) (eT eI) thing (ev_nm (d := ((eP (eT eI) (eT eI)).f thing)) 2) g fun limits other e_limits e_other => ?_
    refine st_ifR (b := ((!(is_demands rules other)) || ((!(keeps_all rules limits lot)) || (!(keeps_all rules limits other))))) (tv_pw (tw_or (tv_not (tv_of (bz := false) (ev_fn F_is_demands (hr.mono (by decide)) (av_cons (ev_nm (d := ((eQ b (eS b eN) (eS b (eS b eN))).f rules)) 0) (av_cons (ev_nm (d := ((eT eI).f other)) 4) av_nil)) ⟨b, rules, other, rfl, rfl⟩))) (fun hc3 => (tw_or (tv_not (tv_of (bz := false) (ev_fn F_keeps_all (hr.mono (by decide)) (av_cons (ev_nm (d := ((eQ b (eS b eN) (eS b (eS b eN))).f rules)) 0) (av_cons (ev_nm (d := ((eT eI).f limits)) 3) (av_cons (ev_nm (d := ((eT eI).f lot)) 1) av_nil))) ⟨b, rules, limits, lot, rfl, rfl⟩))) (fun hc4 => (tw_or1 (tv_not (tv_of (bz := false) (ev_fn F_keeps_all (hr.mono (by decide)) (av_cons (ev_nm (d := ((eQ b (eS b eN) (eS b (eS b eN))).f rules)) 0) (av_cons (ev_nm (d := ((eT eI).f limits)) 3) (av_cons (ev_nm (d := ((eT eI).f other)) 4) av_nil))) ⟨b, rules, limits, other, rfl, rfl⟩))))))))) (fun ht2 => ?_) (fun ht2 => ?_)
    · exact st_one (s_ret (Ev.frozen ev_bl) (by subst e_other; subst e_limits; unfold is_beside; first | (rw [if_neg (ne_of_false ht), if_pos ht2] <;> rfl) | (dsimp only; rw [if_neg (ne_of_false ht), if_pos ht2] <;> rfl) | (simp only [if_neg (ne_of_false ht), if_pos ht2]; done) | (simp only [if_neg (ne_of_false ht), if_pos ht2]; rfl)))
    · refine st_ifR (b := (!(is_covered (filled rules limits lot) (lacking rules lot other)))) (tv_not (tv_of (bz := false) (ev_fn F_is_covered (hr.mono (by decide)) (av_cons (ev_fn F_filled (hr.mono (by decide)) (av_cons (ev_nm (d := ((eQ b (eS b eN) (eS b (eS b eN))).f rules)) 0) (av_cons (ev_nm (d := ((eT eI).f limits)) 3) (av_cons (ev_nm (d := ((eT eI).f lot)) 1) av_nil))) ⟨b, rules, limits, lot, rfl, rfl⟩) (av_cons (ev_fn F_lacking (hr.mono (by decide)) (av_cons (ev_nm (d := ((eQ b (eS b eN) (eS b (eS b eN))).f rules)) 0) (av_cons (ev_nm (d := ((eT eI).f lot)) 1) (av_cons (ev_nm (d := ((eT eI).f other)) 4) av_nil))) ⟨b, rules, lot, other, rfl, rfl⟩) av_nil)) ⟨false, (filled rules limits lot), (lacking rules lot other), rfl, rfl⟩))) (fun ht3 => ?_) (fun ht3 => ?_)
      · exact st_one (s_ret (Ev.frozen ev_bl) (by subst e_other; subst e_limits; unfold is_beside; first | (rw [if_neg (ne_of_false ht), if_neg (ne_of_false ht2), if_pos ht3] <;> rfl) | (dsimp only; rw [if_neg (ne_of_false ht), if_neg (ne_of_false ht2), if_pos ht3] <;> rfl) | (simp only [if_neg (ne_of_false ht), if_neg (ne_of_false ht2), if_pos ht3]; done) | (simp only [if_neg (ne_of_false ht), if_neg (ne_of_false ht2), if_pos ht3]; rfl)))
      · exact st_one (s_ret (Ev.frozen (ev_c (t_eq eI g (t_sum g other m_sum (ev_nm (d := ((eT eI).f other)) 4) (sqeT _ _)) (ev_fn F_greatest_beside (hr.mono (by decide)) (av_cons (ev_nm (d := ((eQ b (eS b eN) (eS b (eS b eN))).f rules)) 0) (av_cons (ev_nm (d := ((eT eI).f lot)) 1) av_nil)) ⟨b, rules, lot, rfl, (by first | assumption | omega | decide | simp_all), rfl⟩)))) (by subst e_other; subst e_limits; unfold is_beside; first | (rw [if_neg (ne_of_false ht), if_neg (ne_of_false ht2), if_neg (ne_of_false ht3)] <;> rfl) | (dsimp only; rw [if_neg (ne_of_false ht), if_neg (ne_of_false ht2), if_neg (ne_of_false ht3)] <;> rfl) | (simp only [if_neg (ne_of_false ht), if_neg (ne_of_false ht2), if_neg (ne_of_false ht3)]; done) | (simp only [if_neg (ne_of_false ht), if_neg (ne_of_false ht2), if_neg (ne_of_false ht3)]; rfl)))

def is_beside_list (rules : ((List Str) × (List (List Str)))) (lot : (List Int)) (thing : ((List Int) × (List Int))) : Bool :=
  (if ((!false) || true) = true then false else
  false)
def P_is_beside_list (ds : List PyData) (d : PyData) : Prop := ∃ (b : Bool) (rules : ((List Str) × (List (List Str)))) (lot : (List Int)) (thing : ((List Int) × (List Int))), ds = [((eQ b (eS b eN) (eS b (eS b eN))).f rules), ((eT eI).f lot), ((eQ false (eT eI) (eT eI)).f thing)] ∧ d = (eB.f (is_beside_list rules lot thing))
theorem sc_is_beside_list : FnScope ["rules", "lot", "thing", "limits", "other"] ["rules", "lot", "thing"] (defScope s_is_beside) := ⟨rfl, rfl, rfl, by decide +kernel, rfl, by decide +kernel, by decide +kernel⟩
theorem ok_is_beside_list (F : FnP K "is_beside" s_is_beside f fd) (m_isinstance : mg "isinstance" = none) (m_tuple : mg "tuple" = none) : FnOk Pr w K mg base CX0 1 f fd ["rules", "lot", "thing"] (spD P_is_beside_list) := by
  refine fn_ok F sc_is_beside_list (fun ds d h => by obtain ⟨b, rules, lot, thing, rfl, rfl⟩ := h; rfl) fun cdv A outer s H E hr g ds d h => ?_
  obtain ⟨b, rules, lot, thing, rfl, rfl⟩ := h
  refine st_ifR (b := ((!false) || true)) (tv_pw (tw_or (y := true) (tv_not (tv_of (bz := false) (Ev.cast (d' := .bool false) (ev_isi m_isinstance (ev_nm (d := ((eQ false (eT eI) (eT eI)).f thing)) 2) m_tuple (T := "tuple")) rfl))) (fun h => nomatch h))) (fun ht => ?_) (fun ht => ?_)
  · exact st_one (s_ret (Ev.frozen ev_bl) (by unfold is_beside_list; first | (rw [if_pos ht] <;> rfl) | (dsimp only; rw [if_pos ht] <;> rfl) | (simp only [if_pos ht]; done) | (simp only [if_pos ht]; rfl)))
  · exact nomatch ht

def full_cover (rules : ((List Str) × (List (List Str)))) (limits : (List Int)) (lot : (List Int)) (other : (List Int)) : (Option (List (List Str))) :=
  let names : (List Str) := (lacking rules lot other);
  let found : (List (List Str)) := (filled rules limits lot);
  (if (!(is_covered found names)) = true then (none : (Option (List (List Str)))) else
  let found5 : (List (List Str)) := (found).foldl (fun (found2 : (List (List Str))) (group : (List Str)) => (let less : (List (List Str)) := (found2.filter fun own => (!decide (own = group))); let found4 : (List (List Str)) := if (is_covered less names) = true then (let found3 : (List (List Str)) := less; found3) else (found2); found4 : (List (List Str)))) found;
  (some found5))
def P_full_cover (ds : List PyData) (d : PyData) : Prop := ∃ (b : Bool) (rules : ((List Str) × (List (List Str)))) (limits : (List Int)) (lot : (List Int)) (other : (List Int)), ds = [((eQ b (eS b eN) (eS b (eS b eN))).f rules), ((eT eI).f limits), ((eT eI).f lot), ((eT eI).f other)] ∧ d = ((eO (eT (eT eN)) (fun _ => nofun)).f (full_cover rules limits lot other))
theorem sc_full_cover : FnScope ["rules", "limits", "lot", "other", "names", "found", "group", "less", "own"] ["rules", "limits", "lot", "other"] (defScope s_full_cover) := ⟨rfl, rfl, rfl, by decide +kernel, rfl, by decide +kernel, by decide +kernel⟩
theorem ok_full_cover (F : FnP K "full_cover" s_full_cover f fd) (m_list : mg "list" = none) (m_tuple : mg "tuple" = none) (F_filled : FnF Pr w K mg base "filled" 9 ["rules", "limits", "lot"] P_filled) (F_is_covered : FnF Pr w K mg base "is_covered" 1 ["groups", "names"] P_is_covered) (F_lacking : FnF Pr w K mg base "lacking" 1 ["rules", "lot", "other"] P_lacking) : FnOk Pr w K mg base CX0 10 f fd ["rules", "limits", "lot", "other"] (spD P_full_cover) := by
  refine fn_ok F sc_full_cover (fun ds d h => by obtain ⟨b, rules, limits, lot, other, rfl, rfl⟩ := h; rfl) fun cdv A outer s H E hr g ds d h => ?_
  obtain ⟨b, rules, limits, lot, other, rfl, rfl⟩ := h
  refine st_par2 (i := 4) (j := 5) (fun v => ((eL eN).f v)) (fun v => ((eL (eT eN)).f v)) (lacking rules lot other) (filled rules limits lot) (ev_fn F_lacking (hr.mono (by decide)) (av_cons (ev_nm (d := ((eQ b (eS b eN) (eS b (eS b eN))).f rules)) 0) (av_cons (ev_nm (d := ((eT eI).f lot)) 2) (av_cons (ev_nm (d := ((eT eI).f other)) 3) av_nil))) ⟨b, rules, lot, other, rfl, rfl⟩) (ev_fn F_filled (hr.mono (by decide)) (av_cons (ev_nm (d := ((eQ b (eS b eN) (eS b (eS b eN))).f rules)) 0) (av_cons (ev_nm (d := ((eT eI).f limits)) 1) (av_cons (ev_nm (d := ((eT eI).f lot)) 2) av_nil))) ⟨b, rules, limits, lot, rfl, rfl⟩) g fun names found e_names e_found => ?_
  refine st_ifR (b := (!(is_covered found names))) (tv_not (tv_of (bz := false) (ev_fn F_is_covered (hr.mono (by decide)) (av_cons (ev_nm (d := ((eL (eT eN)).f found)) 5) (av_cons (ev_nm (d := ((eL eN).f names)) 4) av_nil)) ⟨false, found, names, rfl, rfl⟩))) (fun ht => ?_) (fun ht => ?_)
  · exact st_one (s_ret (Ev.frozen ev_non) (by subst e_found; subst e_names; unfold full_cover; first | (rw [if_pos ht] <;> rfl) | (dsimp only; rw [if_pos ht] <;> rfl) | (simp only [if_pos ht]; done) | (simp only [if_pos ht]; rfl)))
  · refine st_fold g [6] found (eT eN).f (fun (j : Slot × Slot × Slot) (u : (List (List Str))) => [.val ((eQ b (eS b eN) (eS b (eS b eN))).f rules), .val ((eT eI).f limits), .val ((eT eI).f lot), .val ((eT eI).f other), .val ((eL eN).f names), .val ((eL (eT eN)).f u), j.1, j.2.1, j.2.2]) (fun (found2 : (List (List Str))) (group : (List Str)) => (let less : (List (List Str)) := (found2.filter fun own => (!decide (own = group))); let found4 : (List (List Str)) := if (is_covered less names) = true then (let found3 : (List (List Str)) := less; found3) else (found2); found4 : (List (List Str)))) found ((.no, .no, .no) : Slot × Slot × Slot) (ti_seq (eT eN) found (t_list (eT eN) found m_list (ev_nm (d := ((eL (eT eN)).f found)) 5) (sqeL _ _)) (sqeL _ _) fl_f) (pg_name (i := 6) g.nd rfl (by first | exact Or.inl rfl | exact Or.inr rfl)) rfl (fun pre_group group post_group j1 found2 hx_group hu_group => ⟨_, bd_name, ?_⟩) fun j1' found5 e_found5 => ?_
    · refine st_letD (i := 7) (found2.filter fun own => (!decide (own = group))) (fun v => ((eL (eT eN)).f v)) (s_setLc (b_fil (own := [("own", 8)]) (gt := gName 8) (eT eN) found2 (fun own => (!decide (own = group))) (fun own => [.val ((eQ b (eS b eN) (eS b (eS b eN))).f rules), .val ((eT eI).f limits), .val ((eT eI).f lot), .val ((eT eI).f other), .val ((eL eN).f names), .val ((eL (eT eN)).f found2), .val ((eT eN).f group), j1.2.1, .val ((eT eN).f own)]) g (ti_seq (eT eN) found2 (ev_nm (d := ((eL (eT eN)).f found2)) 5) (sqeL _ _) fl_f) (blkOk_by (by rfl)) (fun _ _ _ _ _ => pg_name (i := 8) g.nd rfl (by first | exact Or.inl rfl | exact Or.inr rfl)) (fun _ _ => bd_name) (fun _ _ _ _ _ own h_own => tsv_one (tv_c (bz := false) (t_ne (eT eN) g (ev_nm (d := ((eT eN).f own)) 8) (ev_nm (d := ((eT eN).f group)) 6)))) (fun _ _ _ _ _ own h_own q_own => (ev_nm (d := ((eT eN).f own)) 8))) g) fun less e_less => ?_
      refine st_join (b := (is_covered less names)) (let found3 : (List (List Str)) := less; found3) (found2) (fun (j : Unit) (u : (List (List Str))) => [.val ((eQ b (eS b eN) (eS b (eS b eN))).f rules), .val ((eT eI).f limits), .val ((eT eI).f lot), .val ((eT eI).f other), .val ((eL eN).f names), .val ((eL (eT eN)).f u), .val ((eT eN).f group), .val ((eL (eT eN)).f less), j1.2.2]) (tv_of (bz := false) (ev_fn F_is_covered (hr.mono (by decide)) (av_cons (ev_nm (d := ((eL (eT eN)).f less)) 7) (av_cons (ev_nm (d := ((eL eN).f names)) 4) av_nil)) ⟨false, less, names, rfl, rfl⟩)) (fun ht2 => ?_) (fun ht2 => ?_) fun j2 found4 e_found4 => ?_
      · refine st_letD (i := 5) less (fun v => ((eL (eT eN)).f v)) (s_set (ev_nm (d := ((eL (eT eN)).f less)) 7) g) fun found3 e_found3 => ?_
        refine st_nil ?_; subst e_found3; exact ⟨(), rfl⟩
      · refine st_nil ?_; exact ⟨(), rfl⟩
      refine st_nil ?_; subst e_found4; subst e_less; exact ⟨(_, _, _), rfl⟩
    exact st_one (s_ret (Ev.frozen (t_tuple (eT eN) found5 m_tuple (ev_nm (d := ((eL (eT eN)).f found5)) 5) (sqeL _ _))) (by subst e_found5; subst e_found; subst e_names; unfold full_cover; first | (rw [if_neg (ne_of_false ht)] <;> rfl) | (dsimp only; rw [if_neg (ne_of_false ht)] <;> rfl) | (simp only [if_neg (ne_of_false ht)]; done) | (simp only [if_neg (ne_of_false ht)]; rfl)))

def is_full_cover (rules : ((List Str) × (List (List Str)))) (limits : (List Int)) (lot : (List Int)) (other : (List Int)) (thing : (List (List Str))) : Bool :=
  (if ((!(is_open rules thing)) || (!(is_covered thing (lacking rules lot other)))) = true then false else
  let every : (List (List Str)) := (filled rules limits lot);
  ((thing.map fun group => (decide (group ∈ every))).all id))
def P_is_full_cover (ds : List PyData) (d : PyData) : Prop := ∃ (b : Bool) (rules : ((List Str) × (List (List Str)))) (limits : (List Int)) (lot : (List Int)) (other : (List Int)) (thing : (List (List Str))), ds = [((eQ b (eS b eN) (eS b (eS b eN))).f rules), ((eT eI).f limits), ((eT eI).f lot), ((eT eI).f other), ((eT (eT eN)).f thing)] ∧ d = (eB.f (is_full_cover rules limits lot other thing))
theorem sc_is_full_cover : FnScope ["rules", "limits", "lot", "other", "thing", "every", "group"] ["rules", "limits", "lot", "other", "thing"] (defScope s_is_full_cover) := ⟨rfl, rfl, rfl, by decide +kernel, rfl, by decide +kernel, by decide +kernel⟩
theorem ok_is_full_cover (F : FnP K "is_full_cover" s_is_full_cover f fd) (m_all : mg "all" = none) (F_filled : FnF Pr w K mg base "filled" 9 ["rules", "limits", "lot"] P_filled) (F_is_covered : FnF Pr w K mg base "is_covered" 1 ["groups", "names"] P_is_covered) (F_is_open : FnF Pr w K mg base "is_open" 9 ["rules", "thing"] P_is_open) (F_lacking : FnF Pr w K mg base "lacking" 1 ["rules", "lot", "other"] P_lacking) : FnOk Pr w K mg base CX0 10 f fd ["rules", "limits", "lot", "other", "thing"] (spD P_is_full_cover) := by
  refine fn_ok F sc_is_full_cover (fun ds d h => by obtain ⟨b, rules, limits, lot, other, thing, rfl, rfl⟩ := h; rfl) fun cdv A outer s H E hr g ds d h => ?_
  obtain ⟨b, rules, limits, lot, other, thing, rfl, rfl⟩ := h
  refine st_ifR (b := ((!(is_open rules thing)) || (!(is_covered thing (lacking rules lot other))))) (tv_pw (tw_or (tv_not (tv_of (bz := false) (ev_fn F_is_open (hr.mono (by decide)) (av_cons (ev_nm (d := ((eQ b (eS b eN) (eS b (eS b eN))).f rules)) 0) (av_cons (ev_nm (d := ((eT (eT eN)).f thing)) 4) av_nil)) ⟨b, rules, thing, rfl, rfl⟩))) (fun hc => (tw_or1 (tv_not (tv_of (bz := false) (ev_fn F_is_covered (hr.mono (by decide)) (av_cons (ev_nm (d := ((eT (eT eN)).f thing)) 4) (av_cons (ev_fn F_lacking (hr.mono (by decide)) (av_cons (ev_nm (d := ((eQ b (eS b eN) (eS b (eS b eN))).f rules)) 0) (av_cons (ev_nm (d := ((eT eI).f lot)) 2) (av_cons (ev_nm (d := ((eT eI).f other)) 3) av_nil))) ⟨b, rules, lot, other, rfl, rfl⟩) av_nil)) ⟨true, thing, (lacking rules lot other), rfl, rfl⟩))))))) (fun ht => ?_) (fun ht => ?_)
  · exact st_one (s_ret (Ev.frozen ev_bl) (by unfold is_full_cover; first | (rw [if_pos ht] <;> rfl) | (dsimp only; rw [if_pos ht] <;> rfl) | (simp only [if_pos ht]; done) | (simp only [if_pos ht]; rfl)))
  · refine st_letD (i := 5) (filled rules limits lot) (fun v => ((eL (eT eN)).f v)) (s_set (ev_fn F_filled (hr.mono (by decide)) (av_cons (ev_nm (d := ((eQ b (eS b eN) (eS b (eS b eN))).f rules)) 0) (av_cons (ev_nm (d := ((eT eI).f limits)) 1) (av_cons (ev_nm (d := ((eT eI).f lot)) 2) av_nil))) ⟨b, rules, limits, lot, rfl, rfl⟩) g) fun every e_every => ?_
    exact st_one (s_ret (Ev.frozen (t_all g (thing.map fun group => (decide (group ∈ every))) m_all (LcB.ev (b_map (own := [("group", 6)]) (gt := gName 6) (eT eN) eB thing (fun group => (decide (group ∈ every))) (fun group => [.val ((eQ b (eS b eN) (eS b (eS b eN))).f rules), .val ((eT eI).f limits), .val ((eT eI).f lot), .val ((eT eI).f other), .val ((eT (eT eN)).f thing), .val ((eL (eT eN)).f every), .val ((eT eN).f group)]) g (ti_seq (eT eN) thing (ev_nm (d := ((eT (eT eN)).f thing)) 4) (sqeT _ _) fl_f) (blkOk_by (by rfl)) (fun _ _ _ _ _ => pg_name (i := 6) g.nd rfl (by first | exact Or.inl rfl | exact Or.inr rfl)) (fun _ _ => bd_name) (fun _ _ _ _ _ group h_group => (ev_c (t_in (eT eN) g (ev_nm (d := ((eT eN).f group)) 6) (ev_nm (d := ((eL (eT eN)).f every)) 5) (sqeL _ _)))))) (sqeL _ _))) (by subst e_every; unfold is_full_cover; first | (rw [if_neg (ne_of_false ht)] <;> rfl) | (dsimp only; rw [if_neg (ne_of_false ht)] <;> rfl) | (simp only [if_neg (ne_of_false ht)]; done) | (simp only [if_neg (ne_of_false ht)]; rfl)))

def loads (rules : ((List Str) × (List (List Str)))) (lot : (List Int)) : (List Int) :=
  let kinds : (List Str) := rules.1;
  let groups : (List (List Str)) := rules.2;
  let table : (List (Str × Int)) := (kinds.zip lot);
  (groups.map fun group => ((group.map fun name => (lookD (0 : Int) table name)).sum))
def P_loads (ds : List PyData) (d : PyData) : Prop := ∃ (b : Bool) (rules : ((List Str) × (List (List Str)))) (lot : (List Int)), ds = [((eQ b (eS b eN) (eS b (eS b eN))).f rules), ((eT eI).f lot)] ∧ rules.1.Nodup ∧ rules.1.length = lot.length ∧ (∀ g ∈ rules.2, ∀ n ∈ g, n ∈ rules.1) ∧ d = ((eT eI).f (loads rules lot))
theorem sc_loads : FnScope ["rules", "lot", "kinds", "groups", "table", "name", "group"] ["rules", "lot"] (defScope s_loads) := ⟨rfl, rfl, rfl, by decide +kernel, rfl, by decide +kernel, by decide +kernel⟩
theorem ok_loads (F : FnP K "loads" s_loads f fd) (m_dict : mg "dict" = none) (m_sum : mg "sum" = none) (m_tuple : mg "tuple" = none) (m_zip : mg "zip" = none) (F_tupled : FnF Pr w K mg base "tupled" 7 ["value"] (P_tupled 6)) : FnOk Pr w K mg base CX0 8 f fd ["rules", "lot"] (spD P_loads) := by
  refine fn_ok F sc_loads (fun ds d h => by obtain ⟨b, rules, lot, rfl, hp0, hp1, hp2, rfl⟩ := h; rfl) fun cdv A outer s H E hr g ds d h => ?_
  obtain ⟨b, rules, lot, rfl, hp0, hp1, hp2, rfl⟩ := h
  refine st_tup2 (i := 2) (j := 3) (eT eN) (eT (eT eN)) rules (t_tupled F_tupled (hr.mono (by decide)) (tpQ b (tpS b tpN) (tpS b (tpS b tpN))) (ev_nm (d := ((eQ b (eS b eN) (eS b (eS b eN))).f rules)) 0)) g fun kinds groups e_kinds e_groups => ?_
  refine st_letD (i := 4) (kinds.zip lot) (fun v => (dS eI v)) (s_set (t_dictzip eI kinds lot g m_dict m_zip (ev_nm (d := ((eT eN).f kinds)) 2) (ev_nm (d := ((eT eI).f lot)) 1) (sqeT _ _) (sqeT _ _) (by subst e_kinds; exact hp0) (by subst e_kinds; exact hp1)) g) fun table e_table => ?_
  exact st_one (s_ret (Ev.frozen (t_tuple eI (groups.map fun group => ((group.map fun name => (lookD (0 : Int) table name)).sum)) m_tuple (LcB.ev (b_map (own := [("group", 6)]) (gt := gName 6) (eT eN) eI groups (fun group => ((group.map fun name => (lookD (0 : Int) table name)).sum)) (fun group => [.val ((eQ b (eS b eN) (eS b (eS b eN))).f rules), .val ((eT eI).f lot), .val ((eT eN).f kinds), .val ((eT (eT eN)).f groups), .val (dS eI table), .no, .val ((eT eN).f group)]) g (ti_seq (eT eN) groups (ev_nm (d := ((eT (eT eN)).f groups)) 3) (sqeT _ _) fl_f) (blkOk_by (by rfl)) (fun _ _ _ _ _ => pg_name (i := 6) g.nd rfl (by first | exact Or.inl rfl | exact Or.inr rfl)) (fun _ _ => bd_name) (fun _ _ _ _ _ group h_group => (t_sum g (group.map fun name => (lookD (0 : Int) table name)) m_sum (LcB.ev (b_map (own := [("name", 5)]) (gt := gName 5) eN eI group (fun name => (lookD (0 : Int) table name)) (fun name => [.val ((eQ b (eS b eN) (eS b (eS b eN))).f rules), .val ((eT eI).f lot), .val ((eT eN).f kinds), .val ((eT (eT eN)).f groups), .val (dS eI table), .val (eN.f name), .val ((eT eN).f group)]) g (ti_seq eN group (ev_nm (d := ((eT eN).f group)) 6) (sqeT _ _) fl_f) (blkOk_by (by rfl)) (fun _ _ _ _ _ => pg_name (i := 5) g.nd rfl (by first | exact Or.inl rfl | exact Or.inr rfl)) (fun _ _ => bd_name) (fun _ _ _ _ _ name h_name => (t_dget eI (0 : Int) table name g (ev_nm (d := (dS eI table)) 4) (ev_nm (d := (eN.f name)) 5) (by subst e_table e_groups e_kinds; rw [List.map_fst_zip (by omega)]; exact hp2 _ h_group _ h_name))))) (sqeL _ _))))) (sqeL _ _))) (by subst e_table; subst e_groups; subst e_kinds; first | rfl | (unfold loads; rfl) | (unfold loads; simp; done)))

def left_in (rules : ((List Str) × (List (List Str)))) (limits : (List Int)) (lot : (List Int)) : (List Int) :=
  ((limits.zip (loads rules lot)).map fun z => (z.1 - z.2))
def P_left_in (ds : List PyData) (d : PyData) : Prop := ∃ (b : Bool) (rules : ((List Str) × (List (List Str)))) (limits : (List Int)) (lot : (List Int)), ds = [((eQ b (eS b eN) (eS b (eS b eN))).f rules), ((eT eI).f limits), ((eT eI).f lot)] ∧ rules.1.Nodup ∧ rules.1.length = lot.length ∧ (∀ g ∈ rules.2, ∀ n ∈ g, n ∈ rules.1) ∧ d = ((eT eI).f (left_in rules limits lot))
theorem sc_left_in : FnScope ["rules", "limits", "lot", "limit", "many"] ["rules", "limits", "lot"] (defScope s_left_in) := ⟨rfl, rfl, rfl, by decide +kernel, rfl, by decide +kernel, by decide +kernel⟩
theorem ok_left_in (F : FnP K "left_in" s_left_in f fd) (m_tuple : mg "tuple" = none) (m_zip : mg "zip" = none) (F_loads : FnF Pr w K mg base "loads" 8 ["rules", "lot"] P_loads) : FnOk Pr w K mg base CX0 9 f fd ["rules", "limits", "lot"] (spD P_left_in) := by
  refine fn_ok F sc_left_in (fun ds d h => by obtain ⟨b, rules, limits, lot, rfl, hp0, hp1, hp2, rfl⟩ := h; rfl) fun cdv A outer s H E hr g ds d h => ?_
  obtain ⟨b, rules, limits, lot, rfl, hp0, hp1, hp2, rfl⟩ := h
  exact st_one (s_ret (Ev.frozen (t_tuple eI ((limits.zip (loads rules lot)).map fun z => (z.1 - z.2)) m_tuple (LcB.ev (b_map (own := [("limit", 3), ("many", 4)]) (gt := gTup K 2 (gCons (gName 3) (gCons (gName 4) gNil))) (eP eI eI) eI (limits.zip (loads rules lot)) (fun z => (z.1 - z.2)) (fun z => [.val ((eQ b (eS b eN) (eS b (eS b eN))).f rules), .val ((eT eI).f limits), .val ((eT eI).f lot), .val (eI.f z.1), .val (eI.f z.2)]) g (ti_zip eI eI limits (loads rules lot) m_zip (ev_nm (d := ((eT eI).f limits)) 1) (ev_fn F_loads (hr.mono (by decide)) (av_cons (ev_nm (d := ((eQ b (eS b eN) (eS b (eS b eN))).f rules)) 0) (av_cons (ev_nm (d := ((eT eI).f lot)) 2) av_nil)) ⟨b, rules, lot, rfl, (by first | assumption | omega | decide | simp_all), (by first | assumption | omega | decide | simp_all), (by first | assumption | omega | decide | simp_all), rfl⟩) (sqeT _ _) (sqeT _ _) fl_f fl_f) (blkOk_by (by rfl)) (fun _ _ _ _ _ => pg_tup g.calm (pgs_cons (pg_name (i := 3) g.nd rfl (by first | exact Or.inl rfl | exact Or.inr rfl)) (pgs_cons (pg_name (i := 4) g.nd rfl (by first | exact Or.inl rfl | exact Or.inr rfl)) pgs_nil))) (fun _ _ => bd_tup (bds_cons bd_name (bds_cons bd_name bds_nil))) (fun _ _ _ _ _ z h_z => (ev_sub (ev_nm (d := (eI.f z.1)) 3) (ev_nm (d := (eI.f z.2)) 4))))) (sqeL _ _))) (by first | rfl | (unfold left_in; rfl) | (unfold left_in; simp; done)))

def keeps (rules : ((List Str) × (List (List Str)))) (limits : (List Int)) (lot : (List Int)) : Bool :=
  (((left_in rules limits lot).map fun left => decide ((0 : Int) ≤ left)).all id)
def P_keeps (ds : List PyData) (d : PyData) : Prop := ∃ (b : Bool) (rules : ((List Str) × (List (List Str)))) (limits : (List Int)) (lot : (List Int)), ds = [((eQ b (eS b eN) (eS b (eS b eN))).f rules), ((eT eI).f limits), ((eT eI).f lot)] ∧ rules.1.Nodup ∧ rules.1.length = lot.length ∧ (∀ g ∈ rules.2, ∀ n ∈ g, n ∈ rules.1) ∧ d = (eB.f (keeps rules limits lot))
theorem sc_keeps : FnScope ["rules", "limits", "lot", "left"] ["rules", "limits", "lot"] (defScope s_keeps) := ⟨rfl, rfl, rfl, by decide +kernel, rfl, by decide +kernel, by decide +kernel⟩
theorem ok_keeps (F : FnP K "keeps" s_keeps f fd) (m_all : mg "all" = none) (F_left_in : FnF Pr w K mg base "left_in" 9 ["rules", "limits", "lot"] P_left_in) : FnOk Pr w K mg base CX0 10 f fd ["rules", "limits", "lot"] (spD P_keeps) := by
  refine fn_ok F sc_keeps (fun ds d h => by obtain ⟨b, rules, limits, lot, rfl, hp0, hp1, hp2, rfl⟩ := h; rfl) fun cdv A outer s H E hr g ds d h => ?_
  obtain ⟨b, rules, limits, lot, rfl, hp0, hp1, hp2, rfl⟩ := h
  exact st_one (s_ret (Ev.frozen (t_all g ((left_in rules limits lot).map fun left => decide ((0 : Int) ≤ left)) m_all (LcB.ev (b_map (own := [("left", 3)]) (gt := gName 3) eI eB (left_in rules limits lot) (fun left => decide ((0 : Int) ≤ left)) (fun left => [.val ((eQ b (eS b eN) (eS b (eS b eN))).f rules), .val ((eT eI).f limits), .val ((eT eI).f lot), .val (eI.f left)]) g (ti_seq eI (left_in rules limits lot) (ev_fn F_left_in (hr.mono (by decide)) (av_cons (ev_nm (d := ((eQ b (eS b eN) (eS b (eS b eN))).f rules)) 0) (av_cons (ev_nm (d := ((eT eI).f limits)) 1) (av_cons (ev_nm (d := ((eT eI).f lot)) 2) av_nil))) ⟨b, rules, limits, lot, rfl, (by first | assumption | omega | decide | simp_all), (by first | assumption | omega | decide | simp_all), (by first | assumption | omega | decide | simp_all), rfl⟩) (sqeT _ _) fl_f) (blkOk_by (by rfl)) (fun _ _ _ _ _ => pg_name (i := 3) g.nd rfl (by first | exact Or.inl rfl | exact Or.inr rfl)) (fun _ _ => bd_name) (fun _ _ _ _ _ left h_left => (ev_c (cv_ge (ev_nm (d := (eI.f left)) 3) ev_int))))) (sqeL _ _))) (by first | rfl | (unfold keeps; rfl) | (unfold keeps; simp; done)))

def full_groups (rules : ((List Str) × (List (List Str)))) (limits : (List Int)) (lot : (List Int)) : (List (List Str)) :=
  (((rules.2.zip (left_in rules limits lot)).filter fun z => decide (z.2 ≤ (0 : Int))).map fun z => z.1)
def P_full_groups (ds : List PyData) (d : PyData) : Prop := ∃ (b : Bool) (rules : ((List Str) × (List (List Str)))) (limits : (List Int)) (lot : (List Int)), ds = [((eQ b (eS b eN) (eS b (eS b eN))).f rules), ((eT eI).f limits), ((eT eI).f lot)] ∧ rules.1.Nodup ∧ rules.1.length = lot.length ∧ (∀ g ∈ rules.2, ∀ n ∈ g, n ∈ rules.1) ∧ d = ((eT (eT eN)).f (full_groups rules limits lot))
theorem sc_full_groups : FnScope ["rules", "limits", "lot", "group", "left"] ["rules", "limits", "lot"] (defScope s_full_groups) := ⟨rfl, rfl, rfl, by decide +kernel, rfl, by decide +kernel, by decide +kernel⟩
theorem ok_full_groups (F : FnP K "full_groups" s_full_groups f fd) (m_tuple : mg "tuple" = none) (m_zip : mg "zip" = none) (F_left_in : FnF Pr w K mg base "left_in" 9 ["rules", "limits", "lot"] P_left_in) (F_tupled : FnF Pr w K mg base "tupled" 7 ["value"] (P_tupled 6)) : FnOk Pr w K mg base CX0 10 f fd ["rules", "limits", "lot"] (spD P_full_groups) := by
  refine fn_ok F sc_full_groups (fun ds d h => by obtain ⟨b, rules, limits, lot, rfl, hp0, hp1, hp2, rfl⟩ := h; rfl) fun cdv A outer s H E hr g ds d h => ?_
  obtain ⟨b, rules, limits, lot, rfl, hp0, hp1, hp2, rfl⟩ := h
  exact st_one (s_ret (Ev.frozen (t_tuple (eT eN) (((rules.2.zip (left_in rules limits lot)).filter fun z => decide (z.2 ≤ (0 : Int))).map fun z => z.1) m_tuple (LcB.ev (b_lc (own := [("group", 3), ("left", 4)]) (gt := gTup K 2 (gCons (gName 3) (gCons (gName 4) gNil))) (eP (eT eN) eI) (eT eN) (rules.2.zip (left_in rules limits lot)) (fun z => decide (z.2 ≤ (0 : Int))) (fun z => z.1) (fun z => [.val ((eQ b (eS b eN) (eS b (eS b eN))).f rules), .val ((eT eI).f limits), .val ((eT eI).f lot), .val ((eT eN).f z.1), .val (eI.f z.2)]) g (ti_zip (eT eN) eI rules.2 (left_in rules limits lot) m_zip (ev_ix (d := ((eT (eT eN)).f rules.2)) (t_tupled F_tupled (hr.mono (by decide)) (tpQ b (tpS b tpN) (tpS b (tpS b tpN))) (ev_nm (d := ((eQ b (eS b eN) (eS b (eS b eN))).f rules)) 0)) ev_int (sqT _) rfl) (ev_fn F_left_in (hr.mono (by decide)) (av_cons (ev_nm (d := ((eQ b (eS b eN) (eS b (eS b eN))).f rules)) 0) (av_cons (ev_nm (d := ((eT eI).f limits)) 1) (av_cons (ev_nm (d := ((eT eI).f lot)) 2) av_nil))) ⟨b, rules, limits, lot, rfl, (by first | assumption | omega | decide | simp_all), (by first | assumption | omega | decide | simp_all), (by first | assumption | omega | decide | simp_all), rfl⟩) (sqeT _ _) (sqeT _ _) fl_f fl_f) (blkOk_by (by rfl)) (fun _ _ _ _ _ => pg_tup g.calm (pgs_cons (pg_name (i := 3) g.nd rfl (by first | exact Or.inl rfl | exact Or.inr rfl)) (pgs_cons (pg_name (i := 4) g.nd rfl (by first | exact Or.inl rfl | exact Or.inr rfl)) pgs_nil))) (fun _ _ => bd_tup (bds_cons bd_name (bds_cons bd_name bds_nil))) (fun _ _ _ _ _ z h_z => tsv_one (tv_c (bz := false) (cv_le (ev_nm (d := (eI.f z.2)) 4) ev_int))) (fun _ _ _ _ _ z h_z q_z => (ev_nm (d := ((eT eN).f z.1)) 3)))) (sqeL _ _))) (by first | rfl | (unfold full_groups; rfl) | (unfold full_groups; simp; done)))

def is_shut (rules : ((List Str) × (List (List Str)))) (limits : (List Int)) (demands : (List Int)) (lot : (List Int)) : Bool :=
  let full : (List (List Str)) := (full_groups rules limits lot);
  let less : (List Str) := (((rules.1.zip (lot.zip demands)).filter fun z => decide (z.2.1 < z.2.2)).map fun z => z.1);
  ((less.map fun name => ((full.map fun group => (decide (name ∈ group))).any id)).all id)
def P_is_shut (ds : List PyData) (d : PyData) : Prop := ∃ (b : Bool) (rules : ((List Str) × (List (List Str)))) (limits : (List Int)) (demands : (List Int)) (lot : (List Int)), ds = [((eQ b (eS b eN) (eS b (eS b eN))).f rules), ((eT eI).f limits), ((eT eI).f demands), ((eT eI).f lot)] ∧ rules.1.Nodup ∧ rules.1.length = lot.length ∧ (∀ g ∈ rules.2, ∀ n ∈ g, n ∈ rules.1) ∧ d = (eB.f (is_shut rules limits demands lot))
theorem sc_is_shut : FnScope ["rules", "limits", "demands", "lot", "full", "less", "name", "many", "number", "group"] ["rules", "limits", "demands", "lot"] (defScope s_is_shut) := ⟨rfl, rfl, rfl, by decide +kernel, rfl, by decide +kernel, by decide +kernel⟩
theorem ok_is_shut (F : FnP K "is_shut" s_is_shut f fd) (m_all : mg "all" = none) (m_any : mg "any" = none) (m_zip : mg "zip" = none) (F_full_groups : FnF Pr w K mg base "full_groups" 10 ["rules", "limits", "lot"] P_full_groups) : FnOk Pr w K mg base CX0 11 f fd ["rules", "limits", "demands", "lot"] (spD P_is_shut) := by
  refine fn_ok F sc_is_shut (fun ds d h => by obtain ⟨b, rules, limits, demands, lot, rfl, hp0, hp1, hp2, rfl⟩ := h; rfl) fun cdv A outer s H E hr g ds d h => ?_
  obtain ⟨b, rules, limits, demands, lot, rfl, hp0, hp1, hp2, rfl⟩ := h
  refine st_letD (i := 4) (full_groups rules limits lot) (fun v => ((eT (eT eN)).f v)) (s_set (ev_fn F_full_groups (hr.mono (by decide)) (av_cons (ev_nm (d := ((eQ b (eS b eN) (eS b (eS b eN))).f rules)) 0) (av_cons (ev_nm (d := ((eT eI).f limits)) 1) (av_cons (ev_nm (d := ((eT eI).f lot)) 3) av_nil))) ⟨b, rules, limits, lot, rfl, (by first | assumption | omega | decide | simp_all), (by first | assumption | omega | decide | simp_all), (by first | assumption | omega | decide | simp_all), rfl⟩) g) fun full e_full => ?_
  refine st_letD (i := 5) (((rules.1.zip (lot.zip demands)).filter fun z => decide (z.2.1 < z.2.2)).map fun z => z.1) (fun v => ((eL eN).f v)) (s_setLc (b_lc (own := [("name", 6), ("many", 7), ("number", 8)]) (gt := gTup K 3 (gCons (gName 6) (gCons (gName 7) (gCons (gName 8) gNil)))) (eP3 eN eI eI) eN (rules.1.zip (lot.zip demands)) (fun z => decide (z.2.1 < z.2.2)) (fun z => z.1) (fun z => [.val ((eQ b (eS b eN) (eS b (eS b eN))).f rules), .val ((eT eI).f limits), .val ((eT eI).f demands), .val ((eT eI).f lot), .val ((eT (eT eN)).f full), .no, .val (eN.f z.1), .val (eI.f z.2.1), .val (eI.f z.2.2), .no]) g (ti_zip3 eN eI eI rules.1 lot demands m_zip (ev_ix (d := ((eS b eN).f rules.1)) (ev_nm (d := ((eQ b (eS b eN) (eS b (eS b eN))).f rules)) 0) ev_int (sqS b _) rfl) (ev_nm (d := ((eT eI).f lot)) 3) (ev_nm (d := ((eT eI).f demands)) 2) (sqeS b _ _) (sqeT _ _) (sqeT _ _) fl_f fl_f fl_f) (blkOk_by (by rfl)) (fun _ _ _ _ _ => pg_tup g.calm (pgs_cons (pg_name (i := 6) g.nd rfl (by first | exact Or.inl rfl | exact Or.inr rfl)) (pgs_cons (pg_name (i := 7) g.nd rfl (by first | exact Or.inl rfl | exact Or.inr rfl)) (pgs_cons (pg_name (i := 8) g.nd rfl (by first | exact Or.inl rfl | exact Or.inr rfl)) pgs_nil)))) (fun _ _ => bd_tup (bds_cons bd_name (bds_cons bd_name (bds_cons bd_name bds_nil)))) (fun _ _ _ _ _ z h_z => tsv_one (tv_c (bz := false) (cv_lt (ev_nm (d := (eI.f z.2.1)) 7) (ev_nm (d := (eI.f z.2.2)) 8)))) (fun _ _ _ _ _ z h_z q_z => (ev_nm (d := (eN.f z.1)) 6))) g) fun less e_less => ?_
  exact st_one (s_ret (Ev.frozen (t_all g (less.map fun name => ((full.map fun group => (decide (name ∈ group))).any id)) m_all (LcB.ev (b_map (own := [("name", 6)]) (gt := gName 6) eN eB less (fun name => ((full.map fun group => (decide (name ∈ group))).any id)) (fun name => [.val ((eQ b (eS b eN) (eS b (eS b eN))).f rules), .val ((eT eI).f limits), .val ((eT eI).f demands), .val ((eT eI).f lot), .val ((eT (eT eN)).f full), .val ((eL eN).f less), .val (eN.f name), .no, .no, .no]) g (ti_seq eN less (ev_nm (d := ((eL eN).f less)) 5) (sqeL _ _) fl_f) (blkOk_by (by rfl)) (fun _ _ _ _ _ => pg_name (i := 6) g.nd rfl (by first | exact Or.inl rfl | exact Or.inr rfl)) (fun _ _ => bd_name) (fun _ _ _ _ _ name h_name => (t_any g (full.map fun group => (decide (name ∈ group))) m_any (LcB.ev (b_map (own := [("group", 9)]) (gt := gName 9) (eT eN) eB full (fun group => (decide (name ∈ group))) (fun group => [.val ((eQ b (eS b eN) (eS b (eS b eN))).f rules), .val ((eT eI).f limits), .val ((eT eI).f demands), .val ((eT eI).f lot), .val ((eT (eT eN)).f full), .val ((eL eN).f less), .val (eN.f name), .no, .no, .val ((eT eN).f group)]) g (ti_seq (eT eN) full (ev_nm (d := ((eT (eT eN)).f full)) 4) (sqeT _ _) fl_f) (blkOk_by (by rfl)) (fun _ _ _ _ _ => pg_name (i := 9) g.nd rfl (by first | exact Or.inl rfl | exact Or.inr rfl)) (fun _ _ => bd_name) (fun _ _ _ _ _ group h_group => (ev_c (t_in eN g (ev_nm (d := (eN.f name)) 6) (ev_nm (d := ((eT eN).f group)) 9) (sqeT _ _)))))) (sqeL _ _))))) (sqeL _ _))) (by subst e_less; subst e_full; first | rfl | (unfold is_shut; rfl) | (unfold is_shut; simp; done)))

def is_end (rules : ((List Str) × (List (List Str)))) (limits : (List Int)) (demands : (List Int)) (thing : (List Int)) : Bool :=
  (if ((!(is_demands rules thing)) || (((thing.zip demands).map fun z => decide (z.2 < z.1)).any id)) = true then false else
  ((keeps rules limits thing) && (is_shut rules limits demands thing)))
def P_is_end (ds : List PyData) (d : PyData) : Prop := ∃ (b : Bool) (rules : ((List Str) × (List (List Str)))) (limits : (List Int)) (demands : (List Int)) (thing : (List Int)), ds = [((eQ b (eS b eN) (eS b (eS b eN))).f rules), ((eT eI).f limits), ((eT eI).f demands), ((eT eI).f thing)] ∧ rules.1.Nodup ∧ rules.1.length = thing.length ∧ (∀ g ∈ rules.2, ∀ n ∈ g, n ∈ rules.1) ∧ d = (eB.f (is_end rules limits demands thing))
theorem sc_is_end : FnScope ["rules", "limits", "demands", "thing", "many", "number"] ["rules", "limits", "demands", "thing"] (defScope s_is_end) := ⟨rfl, rfl, rfl, by decide +kernel, rfl, by decide +kernel, by decide +kernel⟩
theorem ok_is_end (F : FnP K "is_end" s_is_end f fd) (m_any : mg "any" = none) (m_zip : mg "zip" = none) (F_is_demands : FnF Pr w K mg base "is_demands" 3 ["rules", "thing"] P_is_demands) (F_is_shut : FnF Pr w K mg base "is_shut" 11 ["rules", "limits", "demands", "lot"] P_is_shut) (F_keeps : FnF Pr w K mg base "keeps" 10 ["rules", "limits", "lot"] P_keeps) : FnOk Pr w K mg base CX0 12 f fd ["rules", "limits", "demands", "thing"] (spD P_is_end) := by
  refine fn_ok F sc_is_end (fun ds d h => by obtain ⟨b, rules, limits, demands, thing, rfl, hp0, hp1, hp2, rfl⟩ := h; rfl) fun cdv A outer s H E hr g ds d h => ?_
  obtain ⟨b, rules, limits, demands, thing, rfl, hp0, hp1, hp2, rfl⟩ := h
  refine st_ifR (b := ((!(is_demands rules thing)) || (((thing.zip demands).map fun z => decide (z.2 < z.1)).any id))) (tv_pw (tw_or (tv_not (tv_of (bz := false) (ev_fn F_is_demands (hr.mono (by decide)) (av_cons (ev_nm (d := ((eQ b (eS b eN) (eS b (eS b eN))).f rules)) 0) (av_cons (ev_nm (d := ((eT eI).f thing)) 3) av_nil)) ⟨b, rules, thing, rfl, rfl⟩))) (fun hc => (tw_or1 (tv_of (bz := false) (t_any g ((thing.zip demands).map fun z => decide (z.2 < z.1)) m_any (LcB.ev (b_map (own := [("many", 4), ("number", 5)]) (gt := gTup K 2 (gCons (gName 4) (gCons (gName 5) gNil))) (eP eI eI) eB (thing.zip demands) (fun z => decide (z.2 < z.1)) (fun z => [.val ((eQ b (eS b eN) (eS b (eS b eN))).f rules), .val ((eT eI).f limits), .val ((eT eI).f demands), .val ((eT eI).f thing), .val (eI.f z.1), .val (eI.f z.2)]) g (ti_zip eI eI thing demands m_zip (ev_nm (d := ((eT eI).f thing)) 3) (ev_nm (d := ((eT eI).f demands)) 2) (sqeT _ _) (sqeT _ _) fl_f fl_f) (blkOk_by (by rfl)) (fun _ _ _ _ _ => pg_tup g.calm (pgs_cons (pg_name (i := 4) g.nd rfl (by first | exact Or.inl rfl | exact Or.inr rfl)) (pgs_cons (pg_name (i := 5) g.nd rfl (by first | exact Or.inl rfl | exact Or.inr rfl)) pgs_nil))) (fun _ _ => bd_tup (bds_cons bd_name (bds_cons bd_name bds_nil))) (fun _ _ _ _ _ z h_z => (ev_c (cv_gt (ev_nm (d := (eI.f z.1)) 4) (ev_nm (d := (eI.f z.2)) 5)))))) (sqeL _ _))))))) (fun ht => ?_) (fun ht => ?_)
  · exact st_one (s_ret (Ev.frozen ev_bl) (by unfold is_end; first | (rw [if_pos ht] <;> rfl) | (dsimp only; rw [if_pos ht] <;> rfl) | (simp only [if_pos ht]; done) | (simp only [if_pos ht]; rfl)))
  · exact st_one (s_ret (Ev.frozen (ev_and (ev_fn F_keeps (hr.mono (by decide)) (av_cons (ev_nm (d := ((eQ b (eS b eN) (eS b (eS b eN))).f rules)) 0) (av_cons (ev_nm (d := ((eT eI).f limits)) 1) (av_cons (ev_nm (d := ((eT eI).f thing)) 3) av_nil))) ⟨b, rules, limits, thing, rfl, (by first | assumption | omega | decide | simp_all), (by first | assumption | omega | decide | simp_all), (by first | assumption | omega | decide | simp_all), rfl⟩) (fun hc2 => (ev_one (ev_fn F_is_shut (hr.mono (by decide)) (av_cons (ev_nm (d := ((eQ b (eS b eN) (eS b (eS b eN))).f rules)) 0) (av_cons (ev_nm (d := ((eT eI).f limits)) 1) (av_cons (ev_nm (d := ((eT eI).f demands)) 2) (av_cons (ev_nm (d := ((eT eI).f thing)) 3) av_nil)))) ⟨b, rules, limits, demands, thing, rfl, (by first | assumption | omega | decide | simp_all), (by first | assumption | omega | decide | simp_all), (by first | assumption | omega | decide | simp_all), rfl⟩))))) (by unfold is_end; first | (rw [if_neg (ne_of_false ht)] <;> rfl) | (dsimp only; rw [if_neg (ne_of_false ht)] <;> rfl) | (simp only [if_neg (ne_of_false ht)]; done) | (simp only [if_neg (ne_of_false ht)]; rfl)))

def law_loads (rules : ((List Str) × (List (List Str)))) (lot : (List Int)) : (List Int) :=
  (rules.2.map fun group => ((((rules.1.zip lot).filter fun z => (decide (z.1 ∈ group))).map fun z => z.2).sum))
def P_law_loads (ds : List PyData) (d : PyData) : Prop := ∃ (rules : ((List Str) × (List (List Str)))) (lot : (List Int)), ds = [((eP (eT eN) (eT (eT eN))).f rules), ((eT eI).f lot)] ∧ d = ((eT eI).f (law_loads rules lot))
theorem sc_law_loads : FnScope ["rules", "lot", "name", "many", "group"] ["rules", "lot"] (defScope s_law_loads) := ⟨rfl, rfl, rfl, by decide +kernel, rfl, by decide +kernel, by decide +kernel⟩
theorem ok_law_loads (F : FnP K "_law_loads" s_law_loads f fd) (m_sum : mg "sum" = none) (m_tuple : mg "tuple" = none) (m_zip : mg "zip" = none) : FnOk Pr w K mg base CX0 1 f fd ["rules", "lot"] (spD P_law_loads) := by
  refine fn_ok F sc_law_loads (fun ds d h => by obtain ⟨rules, lot, rfl, rfl⟩ := h; rfl) fun cdv A outer s H E hr g ds d h => ?_
  obtain ⟨rules, lot, rfl, rfl⟩ := h
  exact st_one (s_ret (Ev.frozen (t_tuple eI (rules.2.map fun group => ((((rules.1.zip lot).filter fun z => (decide (z.1 ∈ group))).map fun z => z.2).sum)) m_tuple (LcB.ev (b_map (own := [("group", 4)]) (gt := gName 4) (eT eN) eI rules.2 (fun group => ((((rules.1.zip lot).filter fun z => (decide (z.1 ∈ group))).map fun z => z.2).sum)) (fun group => [.val ((eP (eT eN) (eT (eT eN))).f rules), .val ((eT eI).f lot), .no, .no, .val ((eT eN).f group)]) g (ti_seq (eT eN) rules.2 (ev_ix (d := ((eT (eT eN)).f rules.2)) (ev_nm (d := ((eP (eT eN) (eT (eT eN))).f rules)) 0) ev_int (sqT _) rfl) (sqeT _ _) fl_f) (blkOk_by (by rfl)) (fun _ _ _ _ _ => pg_name (i := 4) g.nd rfl (by first | exact Or.inl rfl | exact Or.inr rfl)) (fun _ _ => bd_name) (fun _ _ _ _ _ group h_group => (t_sum g (((rules.1.zip lot).filter fun z => (decide (z.1 ∈ group))).map fun z => z.2) m_sum (LcB.ev (b_lc (own := [("name", 2), ("many", 3)]) (gt := gTup K 2 (gCons (gName 2) (gCons (gName 3) gNil))) (eP eN eI) eI (rules.1.zip lot) (fun z => (decide (z.1 ∈ group))) (fun z => z.2) (fun z => [.val ((eP (eT eN) (eT (eT eN))).f rules), .val ((eT eI).f lot), .val (eN.f z.1), .val (eI.f z.2), .val ((eT eN).f group)]) g (ti_zip eN eI rules.1 lot m_zip (ev_ix (d := ((eT eN).f rules.1)) (ev_nm (d := ((eP (eT eN) (eT (eT eN))).f rules)) 0) ev_int (sqT _) rfl) (ev_nm (d := ((eT eI).f lot)) 1) (sqeT _ _) (sqeT _ _) fl_f fl_f) (blkOk_by (by rfl)) (fun _ _ _ _ _ => pg_tup g.calm (pgs_cons (pg_name (i := 2) g.nd rfl (by first | exact Or.inl rfl | exact Or.inr rfl)) (pgs_cons (pg_name (i := 3) g.nd rfl (by first | exact Or.inl rfl | exact Or.inr rfl)) pgs_nil))) (fun _ _ => bd_tup (bds_cons bd_name (bds_cons bd_name bds_nil))) (fun _ _ _ _ _ z h_z => tsv_one (tv_c (bz := false) (t_in eN g (ev_nm (d := (eN.f z.1)) 2) (ev_nm (d := ((eT eN).f group)) 4) (sqeT _ _)))) (fun _ _ _ _ _ z h_z q_z => (ev_nm (d := (eI.f z.2)) 3)))) (sqeL _ _))))) (sqeL _ _))) (by first | rfl | (unfold law_loads; rfl) | (unfold law_loads; simp; done)))

def law_keeps (rules : ((List Str) × (List (List Str)))) (limits : (List Int)) (lot : (List Int)) : Bool :=
  (decide (((((law_loads rules lot).zip limits).filter fun z => decide (z.2 < z.1)).map fun z => (1 : Int)) = ([] : List Int)))
def P_law_keeps (ds : List PyData) (d : PyData) : Prop := ∃ (rules : ((List Str) × (List (List Str)))) (limits : (List Int)) (lot : (List Int)), ds = [((eP (eT eN) (eT (eT eN))).f rules), ((eT eI).f limits), ((eT eI).f lot)] ∧ d = (eB.f (law_keeps rules limits lot))
theorem sc_law_keeps : FnScope ["rules", "limits", "lot", "load", "limit"] ["rules", "limits", "lot"] (defScope s_law_keeps) := ⟨rfl, rfl, rfl, by decide +kernel, rfl, by decide +kernel, by decide +kernel⟩
theorem ok_law_keeps (F : FnP K "_law_keeps" s_law_keeps f fd) (m_zip : mg "zip" = none) (F_law_loads : FnF Pr w K mg base "_law_loads" 1 ["rules", "lot"] P_law_loads) : FnOk Pr w K mg base CX0 2 f fd ["rules", "limits", "lot"] (spD P_law_keeps) := by
  refine fn_ok F sc_law_keeps (fun ds d h => by obtain ⟨rules, limits, lot, rfl, rfl⟩ := h; rfl) fun cdv A outer s H E hr g ds d h => ?_
  obtain ⟨rules, limits, lot, rfl, rfl⟩ := h
  exact st_one (s_ret (Ev.frozen (ev_c (t_eq (eL eI) g (LcB.ev (b_lc (own := [("load", 3), ("limit", 4)]) (gt := gTup K 2 (gCons (gName 3) (gCons (gName 4) gNil))) (eP eI eI) eI ((law_loads rules lot).zip limits) (fun z => decide (z.2 < z.1)) (fun z => (1 : Int)) (fun z => [.val ((eP (eT eN) (eT (eT eN))).f rules), .val ((eT eI).f limits), .val ((eT eI).f lot), .val (eI.f z.1), .val (eI.f z.2)]) g (ti_zip eI eI (law_loads rules lot) limits m_zip (ev_fn F_law_loads (hr.mono (by decide)) (av_cons (ev_nm (d := ((eP (eT eN) (eT (eT eN))).f rules)) 0) (av_cons (ev_nm (d := ((eT eI).f lot)) 2) av_nil)) ⟨rules, lot, rfl, rfl⟩) (ev_nm (d := ((eT eI).f limits)) 1) (sqeT _ _) (sqeT _ _) fl_f fl_f) (blkOk_by (by rfl)) (fun _ _ _ _ _ => pg_tup g.calm (pgs_cons (pg_name (i := 3) g.nd rfl (by first | exact Or.inl rfl | exact Or.inr rfl)) (pgs_cons (pg_name (i := 4) g.nd rfl (by first | exact Or.inl rfl | exact Or.inr rfl)) pgs_nil))) (fun _ _ => bd_tup (bds_cons bd_name (bds_cons bd_name bds_nil))) (fun _ _ _ _ _ z h_z => tsv_one (tv_c (bz := false) (cv_gt (ev_nm (d := (eI.f z.1)) 3) (ev_nm (d := (eI.f z.2)) 4)))) (fun _ _ _ _ _ z h_z q_z => ev_int))) (t_lstD eI [] av_nil (Nat.zero_le _))))) (by first | rfl | (unfold law_keeps; rfl) | (unfold law_keeps; simp; done)))

def law_full (rules : ((List Str) × (List (List Str)))) (limits : (List Int)) (lot : (List Int)) : (List (List Str)) :=
  (((rules.2.zip ((law_loads rules lot).zip limits)).filter fun z => decide (z.2.2 ≤ z.2.1)).map fun z => z.1)
def P_law_full (ds : List PyData) (d : PyData) : Prop := ∃ (rules : ((List Str) × (List (List Str)))) (limits : (List Int)) (lot : (List Int)), ds = [((eP (eT eN) (eT (eT eN))).f rules), ((eT eI).f limits), ((eT eI).f lot)] ∧ d = ((eT (eT eN)).f (law_full rules limits lot))
theorem sc_law_full : FnScope ["rules", "limits", "lot", "group", "load", "limit"] ["rules", "limits", "lot"] (defScope s_law_full) := ⟨rfl, rfl, rfl, by decide +kernel, rfl, by decide +kernel, by decide +kernel⟩
theorem ok_law_full (F : FnP K "_law_full" s_law_full f fd) (m_tuple : mg "tuple" = none) (m_zip : mg "zip" = none) (F_law_loads : FnF Pr w K mg base "_law_loads" 1 ["rules", "lot"] P_law_loads) : FnOk Pr w K mg base CX0 2 f fd ["rules", "limits", "lot"] (spD P_law_full) := by
  refine fn_ok F sc_law_full (fun ds d h => by obtain ⟨rules, limits, lot, rfl, rfl⟩ := h; rfl) fun cdv A outer s H E hr g ds d h => ?_
  obtain ⟨rules, limits, lot, rfl, rfl⟩ := h
  exact st_one (s_ret (Ev.frozen (t_tuple (eT eN) (((rules.2.zip ((law_loads rules lot).zip limits)).filter fun z => decide (z.2.2 ≤ z.2.1)).map fun z => z.1) m_tuple (LcB.ev (b_lc (own := [("group", 3), ("load", 4), ("limit", 5)]) (gt := gTup K 3 (gCons (gName 3) (gCons (gName 4) (gCons (gName 5) gNil)))) (eP3 (eT eN) eI eI) (eT eN) (rules.2.zip ((law_loads rules lot).zip limits)) (fun z => decide (z.2.2 ≤ z.2.1)) (fun z => z.1) (fun z => [.val ((eP (eT eN) (eT (eT eN))).f rules), .val ((eT eI).f limits), .val ((eT eI).f lot), .val ((eT eN).f z.1), .val (eI.f z.2.1), .val (eI.f z.2.2)]) g (ti_zip3 (eT eN) eI eI rules.2 (law_loads rules lot) limits m_zip (ev_ix (d := ((eT (eT eN)).f rules.2)) (ev_nm (d := ((eP (eT eN) (eT (eT eN))).f rules)) 0) ev_int (sqT _) rfl) (ev_fn F_law_loads (hr.mono (by decide)) (av_cons (ev_nm (d := ((eP (eT eN) (eT (eT eN))).f rules)) 0) (av_cons (ev_nm (d := ((eT eI).f lot)) 2) av_nil)) ⟨rules, lot, rfl, rfl⟩) (ev_nm (d := ((eT eI).f limits)) 1) (sqeT _ _) (sqeT _ _) (sqeT _ _) fl_f fl_f fl_f) (blkOk_by (by rfl)) (fun _ _ _ _ _ => pg_tup g.calm (pgs_cons (pg_name (i := 3) g.nd rfl (by first | exact Or.inl rfl | exact Or.inr rfl)) (pgs_cons (pg_name (i := 4) g.nd rfl (by first | exact Or.inl rfl | exact Or.inr rfl)) (pgs_cons (pg_name (i := 5) g.nd rfl (by first | exact Or.inl rfl | exact Or.inr rfl)) pgs_nil)))) (fun _ _ => bd_tup (bds_cons bd_name (bds_cons bd_name (bds_cons bd_name bds_nil)))) (fun _ _ _ _ _ z h_z => tsv_one (tv_c (bz := false) (cv_ge (ev_nm (d := (eI.f z.2.1)) 4) (ev_nm (d := (eI.f z.2.2)) 5)))) (fun _ _ _ _ _ z h_z q_z => (ev_nm (d := ((eT eN).f z.1)) 3)))) (sqeL _ _))) (by first | rfl | (unfold law_full; rfl) | (unfold law_full; simp; done)))

def law_sets (things : (List (List Str))) : (List (List (List Str))) :=
  let found : (List (List (List Str))) := (([] : List (List Str)) :: ([] : List (List (List Str))));
  let found4 : (List (List (List Str))) := (things).foldl (fun (found2 : (List (List (List Str)))) (own : (List Str)) => (let found3 : (List (List (List Str))) := (found2 ++ (found2.map fun lot => (lot ++ (own :: ([] : List (List Str)))))); found3 : (List (List (List Str))))) found;
  (srt (ltL (ltL ltN)) found4)
def P_law_sets (ds : List PyData) (d : PyData) : Prop := ∃ (things : (List (List Str))), ds = [((eT (eT eN)).f things)] ∧ things.length ≤ 12 ∧ d = ((eL (eT (eT eN))).f (law_sets things))
theorem sc_law_sets : FnScope ["things", "found", "own", "lot"] ["things"] (defScope s_law_sets) := ⟨rfl, rfl, rfl, by decide +kernel, rfl, by decide +kernel, by decide +kernel⟩
theorem ok_law_sets (F : FnP K "_law_sets" s_law_sets f fd) (m_sorted : mg "sorted" = none) : FnOk Pr w K mg base CX0 1 f fd ["things"] (spD P_law_sets) := by
  refine fn_ok F sc_law_sets (fun ds d h => by obtain ⟨things, rfl, hp0, rfl⟩ := h; rfl) fun cdv A outer s H E hr g ds d h => ?_
  obtain ⟨things, rfl, hp0, rfl⟩ := h
  refine st_letD (i := 1) (([] : List (List Str)) :: ([] : List (List (List Str)))) (fun v => ((eL (eT (eT eN))).f v)) (s_set (t_lstD (eT (eT eN)) (([] : List (List Str)) :: ([] : List (List (List Str)))) (t_avc (eT (eT eN)) ([] : List (List Str)) ([] : List (List (List Str))) (t_tupD (eT eN) [] av_nil (Nat.zero_le _)) av_nil) (Nat.le_of_ble_eq_true rfl)) g) fun found e_found => ?_
  refine st_fold g [2] things (eT eN).f (fun (j : Slot × Slot) (u : (List (List (List Str)))) => [.val ((eT (eT eN)).f things), .val ((eL (eT (eT eN))).f u), j.1, j.2]) (fun (found2 : (List (List (List Str)))) (own : (List Str)) => (let found3 : (List (List (List Str))) := (found2 ++ (found2.map fun lot => (lot ++ (own :: ([] : List (List Str)))))); found3 : (List (List (List Str))))) found ((.no, .no) : Slot × Slot) (ti_seq (eT eN) things (ev_nm (d := ((eT (eT eN)).f things)) 0) (sqeT _ _) fl_f) (pg_name (i := 2) g.nd rfl (by first | exact Or.inl rfl | exact Or.inr rfl)) rfl (fun pre_own own post_own j1 found2 hx_own hu_own => ⟨_, bd_name, ?_⟩) fun j1' found4 e_found4 => ?_
  · refine st_letD (i := 1) (found2 ++ (found2.map fun lot => (lot ++ (own :: ([] : List (List Str)))))) (fun v => ((eL (eT (eT eN))).f v)) (s_set (t_catL (eT (eT eN)) found2 (found2.map fun lot => (lot ++ (own :: ([] : List (List Str))))) (ev_nm (d := ((eL (eT (eT eN))).f found2)) 1) (LcB.ev (b_map (own := [("lot", 3)]) (gt := gName 3) (eT (eT eN)) (eT (eT eN)) found2 (fun lot => (lot ++ (own :: ([] : List (List Str))))) (fun lot => [.val ((eT (eT eN)).f things), .val ((eL (eT (eT eN))).f found2), .val ((eT eN).f own), .val ((eT (eT eN)).f lot)]) g (ti_seq (eT (eT eN)) found2 (ev_nm (d := ((eL (eT (eT eN))).f found2)) 1) (sqeL _ _) fl_f) (blkOk_by (by rfl)) (fun _ _ _ _ _ => pg_name (i := 3) g.nd rfl (by first | exact Or.inl rfl | exact Or.inr rfl)) (fun _ _ => bd_name) (fun _ _ _ _ _ lot h_lot => (t_catT (eT eN) lot (own :: ([] : List (List Str))) (ev_nm (d := ((eT (eT eN)).f lot)) 3) (t_tupD (eT eN) (own :: ([] : List (List Str))) (t_avc (eT eN) own ([] : List (List Str)) (ev_nm (d := ((eT eN).f own)) 2) av_nil) (Nat.le_of_ble_eq_true rfl)) (by first | (subst e_found; exact sets_cat hu_own hx_own hp0) | (subst e_found; exact sets_len hu_own hx_own hp0 h_lot)))))) (by first | (subst e_found; exact sets_cat hu_own hx_own hp0) | (subst e_found; exact sets_len hu_own hx_own hp0 h_lot))) g) fun found3 e_found3 => ?_
    refine st_nil ?_; subst e_found3; exact ⟨(_, _), rfl⟩
  exact st_one (s_ret (Ev.frozen (t_sorted (OrdE.tup (OrdE.tup oN)) g found4 m_sorted (ev_nm (d := ((eL (eT (eT eN))).f found4)) 1) (.inl fun _ => ⟨_, rfl⟩))) (by subst e_found4; subst e_found; first | rfl | (unfold law_sets; rfl) | (unfold law_sets; simp; done)))

def law_is_open (groups : (List (List Str))) : Bool :=
  (((enumT groups)).findSome? (fun (z : (Int × (List Str))) => (let others : (List (List Str)) := ((cutT groups none (some z.1)) ++ (cutT groups (some (z.1 + (1 : Int))) none)); (if (decide ((z.2.filter fun name => (decide (((others.filter fun far => (decide (name ∈ far))).map fun far => (1 : Int)) = ([] : List Int)))) = ([] : List Str))) = true then some false else none) : Option Bool))).getD (true)
def P_law_is_open (ds : List PyData) (d : PyData) : Prop := ∃ (groups : (List (List Str))), ds = [((eT (eT eN)).f groups)] ∧ groups.length ≤ 12 ∧ d = (eB.f (law_is_open groups))
theorem sc_law_is_open : FnScope ["groups", "place", "group", "others", "name", "far"] ["groups"] (defScope s_law_is_open) := ⟨rfl, rfl, rfl, by decide +kernel, rfl, by decide +kernel, by decide +kernel⟩
theorem ok_law_is_open (F : FnP K "_law_is_open" s_law_is_open f fd) (m_enumerate : mg "enumerate" = none) : FnOk Pr w K mg base CX0 1 f fd ["groups"] (spD P_law_is_open) := by
  refine fn_ok F sc_law_is_open (fun ds d h => by obtain ⟨groups, rfl, hp0, rfl⟩ := h; rfl) fun cdv A outer s H E hr g ds d h => ?_
  obtain ⟨groups, rfl, hp0, rfl⟩ := h
  refine st_some g [1, 2] (enumT groups) (eP eI (eT eN)).f (fun (j : Slot × Slot × Slot × Slot × Slot) => [.val ((eT (eT eN)).f groups), j.1, j.2.1, j.2.2.1, j.2.2.2.1, j.2.2.2.2]) (fun (z : (Int × (List Str))) => (let others : (List (List Str)) := ((cutT groups none (some z.1)) ++ (cutT groups (some (z.1 + (1 : Int))) none)); (if (decide ((z.2.filter fun name => (decide (((others.filter fun far => (decide (name ∈ far))).map fun far => (1 : Int)) = ([] : List Int)))) = ([] : List Str))) = true then some false else none) : Option Bool)) ((.no, .no, .no, .no, .no) : Slot × Slot × Slot × Slot × Slot) (ti_enum (eT eN) groups m_enumerate (ev_nm (d := ((eT (eT eN)).f groups)) 0) (sqeT _ _) fl_f) (pg_tup g.calm (pgs_cons (pg_name (i := 1) g.nd rfl (by first | exact Or.inl rfl | exact Or.inr rfl)) (pgs_cons (pg_name (i := 2) g.nd rfl (by first | exact Or.inl rfl | exact Or.inr rfl)) pgs_nil))) rfl (fun pre_z z post_z j1 hx_z hp_z => ⟨_, bd_tup (bds_cons bd_name (bds_cons bd_name bds_nil)), ?_⟩) fun j1' ha_z => ?_
  · refine st_letD (i := 3) ((cutT groups none (some z.1)) ++ (cutT groups (some (z.1 + (1 : Int))) none)) (fun v => ((eT (eT eN)).f v)) (s_set (t_catT (eT eN) (cutT groups none (some z.1)) (cutT groups (some (z.1 + (1 : Int))) none) (t_sliceT (eT eN) groups (ev_nm (d := ((eT (eT eN)).f groups)) 0) pv_none (pv_some (ev_nm (d := (eI.f z.1)) 1))) (t_sliceT (eT eN) groups (ev_nm (d := ((eT (eT eN)).f groups)) 0) (pv_some (ev_add (ev_nm (d := (eI.f z.1)) 1) ev_int)) pv_none) (by exact cut_two hp0)) g) fun others e_others => ?_
    refine st_ifR (b := (decide ((z.2.filter fun name => (decide (((others.filter fun far => (decide (name ∈ far))).map fun far => (1 : Int)) = ([] : List Int)))) = ([] : List Str)))) (tv_c (bz := false) (t_eq (eL eN) g (LcB.ev (b_fil (own := [("name", 4)]) (gt := gName 4) eN z.2 (fun name => (decide (((others.filter fun far => (decide (name ∈ far))).map fun far => (1 : Int)) = ([] : List Int)))) (fun name => [.val ((eT (eT eN)).f groups), .val (eI.f z.1), .val ((eT eN).f z.2), .val ((eT (eT eN)).f others), .val (eN.f name), j1.2.2.2.2]) g (ti_seq eN z.2 (ev_nm (d := ((eT eN).f z.2)) 2) (sqeT _ _) fl_f) (blkOk_by (by rfl)) (fun _ _ _ _ _ => pg_name (i := 4) g.nd rfl (by first | exact Or.inl rfl | exact Or.inr rfl)) (fun _ _ => bd_name) (fun _ _ _ _ _ name h_name => tsv_one (tv_c (bz := false) (t_eq (eL eI) g (LcB.ev (b_lc (own := [("far", 5)]) (gt := gName 5) (eT eN) eI others (fun far => (decide (name ∈ far))) (fun far => (1 : Int)) (fun far => [.val ((eT (eT eN)).f groups), .val (eI.f z.1), .val ((eT eN).f z.2), .val ((eT (eT eN)).f others), .val (eN.f name), .val ((eT eN).f far)]) g (ti_seq (eT eN) others (ev_nm (d := ((eT (eT eN)).f others)) 3) (sqeT _ _) fl_f) (blkOk_by (by rfl)) (fun _ _ _ _ _ => pg_name (i := 5) g.nd rfl (by first | exact Or.inl rfl | exact Or.inr rfl)) (fun _ _ => bd_name) (fun _ _ _ _ _ far h_far => tsv_one (tv_c (bz := false) (t_in eN g (ev_nm (d := (eN.f name)) 4) (ev_nm (d := ((eT eN).f far)) 5) (sqeT _ _)))) (fun _ _ _ _ _ far h_far q_far => ev_int))) (t_lstD eI [] av_nil (Nat.zero_le _))))) (fun _ _ _ _ _ name h_name q_name => (ev_nm (d := (eN.f name)) 4)))) (t_lstD eN [] av_nil (Nat.zero_le _)))) (fun ht => ?_) (fun ht => ?_)
    · exact st_one (s_ret (Ev.frozen ev_bl) (by have key := find_at hx_z hp_z (v := false) (by dsimp only; subst e_others; first | (rw [if_pos ht] <;> rfl) | (dsimp only; rw [if_pos ht] <;> rfl) | (simp only [if_pos ht]; done) | (simp only [if_pos ht]; rfl)); unfold law_is_open; first | (rw [key] <;> rfl) | (dsimp only; rw [key] <;> rfl) | (simp only [key]; done) | (simp only [key]; rfl)))
    · refine st_nil ⟨?_, (_, _, _, _, _), rfl⟩; dsimp only; subst e_others; first | (rw [if_neg (ne_of_false ht)] <;> rfl) | (dsimp only; rw [if_neg (ne_of_false ht)] <;> rfl) | (simp only [if_neg (ne_of_false ht)]; done) | (simp only [if_neg (ne_of_false ht)]; rfl)
  exact st_one (s_ret (Ev.frozen ev_bl) (by unfold law_is_open; first | (rw [find_no ha_z] <;> rfl) | (dsimp only; rw [find_no ha_z] <;> rfl) | (simp only [find_no ha_z]; done) | (simp only [find_no ha_z]; rfl)))

def law_cover (rules : ((List Str) × (List (List Str)))) (lot : (List Int)) (groups : (List (List Str))) : Int :=
  (((rules.1.zip lot).map fun z => (z.2 * (max (1 : Int) (((groups.filter fun group2 => (decide (z.1 ∈ group2))).map fun group2 => (1 : Int)).length : Int)))).sum)
def P_law_cover (ds : List PyData) (d : PyData) : Prop := ∃ (rules : ((List Str) × (List (List Str)))) (lot : (List Int)) (groups : (List (List Str))), ds = [((eP (eT eN) (eT (eT eN))).f rules), ((eT eI).f lot), ((eT (eT eN)).f groups)] ∧ groups.length ≤ 12 ∧ d = (eI.f (law_cover rules lot groups))
theorem sc_law_cover : FnScope ["rules", "lot", "groups", "group", "name", "many"] ["rules", "lot", "groups"] (defScope s_law_cover) := ⟨rfl, rfl, rfl, by decide +kernel, rfl, by decide +kernel, by decide +kernel⟩
theorem ok_law_cover (F : FnP K "_law_cover" s_law_cover f fd) (m_len : mg "len" = none) (m_max : mg "max" = none) (m_sum : mg "sum" = none) (m_zip : mg "zip" = none) : FnOk Pr w K mg base CX0 1 f fd ["rules", "lot", "groups"] (spD P_law_cover) := by
  refine fn_ok F sc_law_cover (fun ds d h => by obtain ⟨rules, lot, groups, rfl, hp0, rfl⟩ := h; rfl) fun cdv A outer s H E hr g ds d h => ?_
  obtain ⟨rules, lot, groups, rfl, hp0, rfl⟩ := h
  exact st_one (s_ret (Ev.frozen (t_sum g ((rules.1.zip lot).map fun z => (z.2 * (max (1 : Int) (((groups.filter fun group2 => (decide (z.1 ∈ group2))).map fun group2 => (1 : Int)).length : Int)))) m_sum (LcB.ev (b_map (own := [("name", 4), ("many", 5)]) (gt := gTup K 2 (gCons (gName 4) (gCons (gName 5) gNil))) (eP eN eI) eI (rules.1.zip lot) (fun z => (z.2 * (max (1 : Int) (((groups.filter fun group2 => (decide (z.1 ∈ group2))).map fun group2 => (1 : Int)).length : Int)))) (fun z => [.val ((eP (eT eN) (eT (eT eN))).f rules), .val ((eT eI).f lot), .val ((eT (eT eN)).f groups), .no, .val (eN.f z.1), .val (eI.f z.2)]) g (ti_zip eN eI rules.1 lot m_zip (ev_ix (d := ((eT eN).f rules.1)) (ev_nm (d := ((eP (eT eN) (eT (eT eN))).f rules)) 0) ev_int (sqT _) rfl) (ev_nm (d := ((eT eI).f lot)) 1) (sqeT _ _) (sqeT _ _) fl_f fl_f) (blkOk_by (by rfl)) (fun _ _ _ _ _ => pg_tup g.calm (pgs_cons (pg_name (i := 4) g.nd rfl (by first | exact Or.inl rfl | exact Or.inr rfl)) (pgs_cons (pg_name (i := 5) g.nd rfl (by first | exact Or.inl rfl | exact Or.inr rfl)) pgs_nil))) (fun _ _ => bd_tup (bds_cons bd_name (bds_cons bd_name bds_nil))) (fun _ _ _ _ _ z h_z => (ev_mul (ev_nm (d := (eI.f z.2)) 5) (t_max2 g m_max ev_int (t_len eI ((groups.filter fun group2 => (decide (z.1 ∈ group2))).map fun group2 => (1 : Int)) m_len (LcB.ev (b_lc (own := [("group", 3)]) (gt := gName 3) (eT eN) eI groups (fun group2 => (decide (z.1 ∈ group2))) (fun group2 => (1 : Int)) (fun group2 => [.val ((eP (eT eN) (eT (eT eN))).f rules), .val ((eT eI).f lot), .val ((eT (eT eN)).f groups), .val ((eT eN).f group2), .val (eN.f z.1), .val (eI.f z.2)]) g (ti_seq (eT eN) groups (ev_nm (d := ((eT (eT eN)).f groups)) 2) (sqeT _ _) fl_f) (blkOk_by (by rfl)) (fun _ _ _ _ _ => pg_name (i := 3) g.nd rfl (by first | exact Or.inl rfl | exact Or.inr rfl)) (fun _ _ => bd_name) (fun _ _ _ _ _ group2 h_group2 => tsv_one (tv_c (bz := false) (t_in eN g (ev_nm (d := (eN.f z.1)) 4) (ev_nm (d := ((eT eN).f group2)) 3) (sqeT _ _)))) (fun _ _ _ _ _ group2 h_group2 q_group2 => ev_int))) (sqeL _ _))) (by exact cmul_cnt hp0))))) (sqeL _ _))) (by first | rfl | (unfold law_cover; rfl) | (unfold law_cover; simp; done)))

def law_is_cover (rules : ((List Str) × (List (List Str)))) (limits : (List Int)) (lot : (List Int)) (other : (List Int)) (groups : (List (List Str))) : Bool :=
  let full : (List (List Str)) := (law_full rules limits lot);
  let more : (List Str) := (((rules.1.zip (lot.zip other)).filter fun z => decide (z.2.1 < z.2.2)).map fun z => z.1);
  ((decide (((groups.filter fun group => (!decide (group ∈ full))).map fun group => (1 : Int)) = ([] : List Int))) && ((law_is_open groups) && (decide (((more.filter fun name => (decide (((groups.filter fun group2 => (decide (name ∈ group2))).map fun group2 => (1 : Int)) = ([] : List Int)))).map fun name => (1 : Int)) = ([] : List Int)))))
def P_law_is_cover (ds : List PyData) (d : PyData) : Prop := ∃ (rules : ((List Str) × (List (List Str)))) (limits : (List Int)) (lot : (List Int)) (other : (List Int)) (groups : (List (List Str))), ds = [((eP (eT eN) (eT (eT eN))).f rules), ((eT eI).f limits), ((eT eI).f lot), ((eT eI).f other), ((eT (eT eN)).f groups)] ∧ groups.length ≤ 12 ∧ d = (eB.f (law_is_cover rules limits lot other groups))
theorem sc_law_is_cover : FnScope ["rules", "limits", "lot", "other", "groups", "full", "more", "name", "near", "far", "group"] ["rules", "limits", "lot", "other", "groups"] (defScope s_law_is_cover) := ⟨rfl, rfl, rfl, by decide +kernel, rfl, by decide +kernel, by decide +kernel⟩
theorem ok_law_is_cover (F : FnP K "_law_is_cover" s_law_is_cover f fd) (m_zip : mg "zip" = none) (F_law_full : FnF Pr w K mg base "_law_full" 2 ["rules", "limits", "lot"] P_law_full) (F_law_is_open : FnF Pr w K mg base "_law_is_open" 1 ["groups"] P_law_is_open) : FnOk Pr w K mg base CX0 3 f fd ["rules", "limits", "lot", "other", "groups"] (spD P_law_is_cover) := by
  refine fn_ok F sc_law_is_cover (fun ds d h => by obtain ⟨rules, limits, lot, other, groups, rfl, hp0, rfl⟩ := h; rfl) fun cdv A outer s H E hr g ds d h => ?_
  obtain ⟨rules, limits, lot, other, groups, rfl, hp0, rfl⟩ := h
  refine st_letD (i := 5) (law_full rules limits lot) (fun v => ((eT (eT eN)).f v)) (s_set (ev_fn F_law_full (hr.mono (by decide)) (av_cons (ev_nm (d := ((eP (eT eN) (eT (eT eN))).f rules)) 0) (av_cons (ev_nm (d := ((eT eI).f limits)) 1) (av_cons (ev_nm (d := ((eT eI).f lot)) 2) av_nil))) ⟨rules, limits, lot, rfl, rfl⟩) g) fun full e_full => ?_
  refine st_letD (i := 6) (((rules.1.zip (lot.zip other)).filter fun z => decide (z.2.1 < z.2.2)).map fun z => z.1) (fun v => ((eL eN).f v)) (s_setLc (b_lc (own := [("name", 7), ("near", 8), ("far", 9)]) (gt := gTup K 3 (gCons (gName 7) (gCons (gName 8) (gCons (gName 9) gNil)))) (eP3 eN eI eI) eN (rules.1.zip (lot.zip other)) (fun z => decide (z.2.1 < z.2.2)) (fun z => z.1) (fun z => [.val ((eP (eT eN) (eT (eT eN))).f rules), .val ((eT eI).f limits), .val ((eT eI).f lot), .val ((eT eI).f other), .val ((eT (eT eN)).f groups), .val ((eT (eT eN)).f full), .no, .val (eN.f z.1), .val (eI.f z.2.1), .val (eI.f z.2.2), .no]) g (ti_zip3 eN eI eI rules.1 lot other m_zip (ev_ix (d := ((eT eN).f rules.1)) (ev_nm (d := ((eP (eT eN) (eT (eT eN))).f rules)) 0) ev_int (sqT _) rfl) (ev_nm (d := ((eT eI).f lot)) 2) (ev_nm (d := ((eT eI).f other)) 3) (sqeT _ _) (sqeT _ _) (sqeT _ _) fl_f fl_f fl_f) (blkOk_by (by rfl)) (fun _ _ _ _ _ => pg_tup g.calm (pgs_cons (pg_name (i := 7) g.nd rfl (by first | exact Or.inl rfl | exact Or.inr rfl)) (pgs_cons (pg_name (i := 8) g.nd rfl (by first | exact Or.inl rfl | exact Or.inr rfl)) (pgs_cons (pg_name (i := 9) g.nd rfl (by first | exact Or.inl rfl | exact Or.inr rfl)) pgs_nil)))) (fun _ _ => bd_tup (bds_cons bd_name (bds_cons bd_name (bds_cons bd_name bds_nil)))) (fun _ _ _ _ _ z h_z => tsv_one (tv_c (bz := false) (cv_gt (ev_nm (d := (eI.f z.2.2)) 9) (ev_nm (d := (eI.f z.2.1)) 8)))) (fun _ _ _ _ _ z h_z q_z => (ev_nm (d := (eN.f z.1)) 7))) g) fun more e_more => ?_
  exact st_one (s_ret (Ev.frozen (ev_and (ev_c (t_eq (eL eI) g (LcB.ev (b_lc (own := [("group", 10)]) (gt := gName 10) (eT eN) eI groups (fun group => (!decide (group ∈ full))) (fun group => (1 : Int)) (fun group => [.val ((eP (eT eN) (eT (eT eN))).f rules), .val ((eT eI).f limits), .val ((eT eI).f lot), .val ((eT eI).f other), .val ((eT (eT eN)).f groups), .val ((eT (eT eN)).f full), .val ((eL eN).f more), .no, .no, .no, .val ((eT eN).f group)]) g (ti_seq (eT eN) groups (ev_nm (d := ((eT (eT eN)).f groups)) 4) (sqeT _ _) fl_f) (blkOk_by (by rfl)) (fun _ _ _ _ _ => pg_name (i := 10) g.nd rfl (by first | exact Or.inl rfl | exact Or.inr rfl)) (fun _ _ => bd_name) (fun _ _ _ _ _ group h_group => tsv_one (tv_c (bz := false) (t_notIn (eT eN) g (ev_nm (d := ((eT eN).f group)) 10) (ev_nm (d := ((eT (eT eN)).f full)) 5) (sqeT _ _)))) (fun _ _ _ _ _ group h_group q_group => ev_int))) (t_lstD eI [] av_nil (Nat.zero_le _)))) (fun hc2 => (ev_and (ev_fn F_law_is_open (hr.mono (by decide)) (av_cons (ev_nm (d := ((eT (eT eN)).f groups)) 4) av_nil) ⟨groups, rfl, (by first | assumption | omega | decide | simp_all), rfl⟩) (fun hc => (ev_one (ev_c (t_eq (eL eI) g (LcB.ev (b_lc (own := [("name", 7)]) (gt := gName 7) eN eI more (fun name => (decide (((groups.filter fun group2 => (decide (name ∈ group2))).map fun group2 => (1 : Int)) = ([] : List Int)))) (fun name => (1 : Int)) (fun name => [.val ((eP (eT eN) (eT (eT eN))).f rules), .val ((eT eI).f limits), .val ((eT eI).f lot), .val ((eT eI).f other), .val ((eT (eT eN)).f groups), .val ((eT (eT eN)).f full), .val ((eL eN).f more), .val (eN.f name), .no, .no, .no]) g (ti_seq eN more (ev_nm (d := ((eL eN).f more)) 6) (sqeL _ _) fl_f) (blkOk_by (by rfl)) (fun _ _ _ _ _ => pg_name (i := 7) g.nd rfl (by first | exact Or.inl rfl | exact Or.inr rfl)) (fun _ _ => bd_name) (fun _ _ _ _ _ name h_name => tsv_one (tv_c (bz := false) (t_eq (eL eI) g (LcB.ev (b_lc (own := [("group", 10)]) (gt := gName 10) (eT eN) eI groups (fun group2 => (decide (name ∈ group2))) (fun group2 => (1 : Int)) (fun group2 => [.val ((eP (eT eN) (eT (eT eN))).f rules), .val ((eT eI).f limits), .val ((eT eI).f lot), .val ((eT eI).f other), .val ((eT (eT eN)).f groups), .val ((eT (eT eN)).f full), .val ((eL eN).f more), .val (eN.f name), .no, .no, .val ((eT eN).f group2)]) g (ti_seq (eT eN) groups (ev_nm (d := ((eT (eT eN)).f groups)) 4) (sqeT _ _) fl_f) (blkOk_by (by rfl)) (fun _ _ _ _ _ => pg_name (i := 10) g.nd rfl (by first | exact Or.inl rfl | exact Or.inr rfl)) (fun _ _ => bd_name) (fun _ _ _ _ _ group2 h_group2 => tsv_one (tv_c (bz := false) (t_in eN g (ev_nm (d := (eN.f name)) 7) (ev_nm (d := ((eT eN).f group2)) 10) (sqeT _ _)))) (fun _ _ _ _ _ group2 h_group2 q_group2 => ev_int))) (t_lstD eI [] av_nil (Nat.zero_le _))))) (fun _ _ _ _ _ name h_name q_name => ev_int))) (t_lstD eI [] av_nil (Nat.zero_le _)))))))))) (by subst e_more; subst e_full; first | rfl | (unfold law_is_cover; rfl) | (unfold law_is_cover; simp; done)))

end K

namespace K
open PySem DL
variable {Kd : List Str} {G : List (List Str)} {l o L : Str → Int}
/-! normal forms: lots as functions on the kinds, limits on the groups -/
theorem nf_law_loads (Kd : List Str) (G : List (List Str)) (l : Str → Int) : law_loads (Kd, G) (Kd.map l) = G.map (ld Kd l) := by
  unfold law_loads
  exact List.map_congr_left fun g _ => by rw [zipM]; exact ld_map Kd l g
theorem nf_law_keeps (Kd : List Str) (G : List (List Str)) (l : Str → Int) (L : List Str → Int) : law_keeps (Kd, G) (G.map L) (Kd.map l) = true ↔ ∀ g ∈ G, ld Kd l g ≤ L g := by
  unfold law_keeps
  rw [nf_law_loads, zipMM (δ := Int), filM]
  simp [List.filter_eq_nil_iff]
theorem nf_law_full (Kd : List Str) (G : List (List Str)) (l : Str → Int) (L : List Str → Int) : law_full (Kd, G) (G.map L) (Kd.map l) = G.filter fun g => decide (L g ≤ ld Kd l g) := by
  unfold law_full
  rw [nf_law_loads, zipMM (δ := Int), zipM, filM, mapM]
  simp
theorem nf_load_of (Kd : List Str) (G : List (List Str)) (l : Str → Int) (g : List Str) : load_of (Kd, G) (Kd.map l) g = ld Kd l g := by
  unfold load_of
  rw [zipM]; exact ld_map Kd l g
theorem nf_loads_of (Kd : List Str) (G : List (List Str)) (l : Str → Int) : loads_of (Kd, G) (Kd.map l) = G.map (ld Kd l) := by
  unfold loads_of
  exact List.map_congr_left fun g _ => nf_load_of Kd G l g
theorem nf_keeps_all (Kd : List Str) (G : List (List Str)) (l : Str → Int) (L : List Str → Int) : keeps_all (Kd, G) (G.map L) (Kd.map l) = true ↔ ∀ g ∈ G, ld Kd l g ≤ L g := by
  unfold keeps_all
  rw [nf_loads_of, zipMM (δ := Int)]
  simp
theorem nf_filled (Kd : List Str) (G : List (List Str)) (l : Str → Int) (L : List Str → Int) : filled (Kd, G) (G.map L) (Kd.map l) = G.filter fun g => decide (L g ≤ ld Kd l g) := by
  unfold filled
  rw [nf_loads_of, zipMM (δ := Int), zipM, filM, mapM]
  simp
theorem nf_lacking (Kd : List Str) (G : List (List Str)) (l o : Str → Int) : lacking (Kd, G) (Kd.map l) (Kd.map o) = Kd.filter fun n => decide (l n < o n) := by
  unfold lacking
  rw [zipMM (δ := Int), zipM, filM, mapM]
  simp
theorem nf_loads (nd : Kd.Nodup) (hs : ∀ g ∈ G, g.Sublist Kd) (l : Str → Int) : loads (Kd, G) (Kd.map l) = G.map (ld Kd l) := by
  unfold loads
  dsimp only
  refine List.map_congr_left fun g hg => ?_
  rw [← ld_own nd (hs g hg), zipM]
  congr 1
  exact List.map_congr_left fun n hn => look_map 0 l ((hs g hg).subset hn)
theorem nf_left_in (nd : Kd.Nodup) (hs : ∀ g ∈ G, g.Sublist Kd) (l : Str → Int) (L : List Str → Int) : left_in (Kd, G) (G.map L) (Kd.map l) = G.map fun g => L g - ld Kd l g := by
  unfold left_in
  rw [nf_loads nd hs, zipMM (δ := Int), mapM]
theorem nf_keeps (nd : Kd.Nodup) (hs : ∀ g ∈ G, g.Sublist Kd) (l : Str → Int) (L : List Str → Int) : keeps (Kd, G) (G.map L) (Kd.map l) = true ↔ ∀ g ∈ G, ld Kd l g ≤ L g := by
  unfold keeps
  rw [nf_left_in nd hs, mapM]
  simp only [List.all_eq_true, List.mem_map, id, forall_exists_index, and_imp, forall_apply_eq_imp_iff₂, decide_eq_true_eq]
  exact forall_congr' fun g => forall_congr' fun _ => by omega
theorem nf_full_groups (nd : Kd.Nodup) (hs : ∀ g ∈ G, g.Sublist Kd) (l : Str → Int) (L : List Str → Int) : full_groups (Kd, G) (G.map L) (Kd.map l) = G.filter fun g => decide (L g ≤ ld Kd l g) := by
  unfold full_groups
  rw [nf_left_in nd hs, zipM, filM, mapM]
  simp
  exact List.filter_congr fun g _ => by congr 1; exact propext (by constructor <;> intro h <;> omega)
theorem nf_are (thing : List Int) (many : Int) : are_numbers thing many = true ↔ (thing.length : Int) = many ∧ ∀ x ∈ thing, 0 ≤ x := by
  unfold are_numbers is_number
  by_cases h : (thing.length : Int) = many
  · simp [h]
  · simp [h]
theorem nf_is_limits (Kd : List Str) (G : List (List Str)) (L : List Str → Int) : is_limits (Kd, G) (G.map L) = true ↔ ∀ g ∈ G, 0 ≤ L g := by
  unfold is_limits
  rw [nf_are]; simp
theorem nf_is_demands (Kd : List Str) (G : List (List Str)) (l : Str → Int) : is_demands (Kd, G) (Kd.map l) = true ↔ ∀ n ∈ Kd, 0 ≤ l n := by
  unfold is_demands
  rw [nf_are]; simp
/-! open sets -/
theorem own_kinds_eq (o : List (List Str)) : own_kinds o = o.map fun own => own.filter fun name => decide (cnt o name = 1) := by
  unfold own_kinds
  exact List.map_congr_left fun g _ => List.filter_congr fun n _ => by rw [cnt_count]
theorem p_own (o : List (List Str)) : (((own_kinds o).map fun names => decide ((0 : Int) < (names.length : Int))).all id) = true ↔ Opn o := by
  rw [own_kinds_eq, mapM]
  simp only [List.all_eq_true, List.mem_map, id, forall_exists_index, and_imp, forall_apply_eq_imp_iff₂, decide_eq_true_eq]
  refine forall_congr' fun g => forall_congr' fun hg => ?_
  constructor
  · intro h
    cases e : g.filter fun name => decide (cnt o name = 1) with
    | nil => rw [e] at h; simp at h
    | cons n t =>
      have : n ∈ g.filter fun name => decide (cnt o name = 1) := by rw [e]; exact List.mem_cons_self
      simp at this
      exact ⟨n, this⟩
  · rintro ⟨n, hn, e⟩
    have : n ∈ g.filter fun name => decide (cnt o name = 1) := by simp [hn, e]
    have := List.length_pos_of_mem this
    omega
theorem law_open (o : List (List Str)) : law_is_open o = true ↔ Opn o := by
  refine (find_all (xs := enumT o) (P := fun z => decide ((z.2.filter fun name => (decide ((((cutT o none (some z.1)) ++ (cutT o (some (z.1 + (1 : Int))) none)).filter fun far => (decide (name ∈ far))).map (fun far => (1 : Int)) = ([] : List Int)))) = ([] : List Str)))).trans ?_
  have key : ∀ pre g post, o = pre ++ g :: post → ((decide ((g.filter fun name => (decide ((((cutT o none (some (pre.length : Int))) ++ (cutT o (some ((pre.length : Int) + (1 : Int))) none)).filter fun far => (decide (name ∈ far))).map (fun far => (1 : Int)) = ([] : List Int)))) = ([] : List Str))) = false ↔ ∃ n ∈ g, cnt o n = 1) := by
    intro pre g post e
    subst e
    rw [cut_pre, cut_post]
    rw [decide_eq_false_iff_not, List.filter_eq_nil_iff]
    have h : ∀ n ∈ g, (decide (((pre ++ post).filter fun far => decide (n ∈ far)).map (fun far => (1 : Int)) = ([] : List Int)) = true) ↔ cnt (pre ++ g :: post) n = 1 := fun n hn => by
      rw [decide_eq_true_eq, nilM, List.filter_eq_nil_iff, cnt_app, cnt_cons, if_pos hn]
      have h1 := cnt_nonneg pre n
      have h2 := cnt_nonneg post n
      have h3 : (∀ a ∈ pre ++ post, ¬ decide (n ∈ a) = true) ↔ cnt (pre ++ post) n = 0 := by rw [cnt_zero]; simp
      rw [h3, cnt_app]
      omega
    constructor
    · intro z
      apply Classical.byContradiction
      intro y
      exact z fun n hn q => y ⟨n, hn, (h n hn).mp q⟩
    · rintro ⟨n, hn, q⟩ z
      exact z n hn ((h n hn).mpr q)
  constructor
  · intro h g hg
    obtain ⟨pre, post, e⟩ := List.append_of_mem hg
    exact (key pre g post e).mp (h (pre.length, g) (enum_mem.mpr ⟨pre, post, e, rfl⟩))
  · intro h z hz
    obtain ⟨pre, post, e, e2⟩ := enum_mem.mp hz
    obtain ⟨i, g⟩ := z
    dsimp only at e e2 ⊢
    subst e2
    exact (key pre g post e).mpr (h g (by rw [e]; simp))
theorem open_eq (gs : List (List Str)) : open_sets gs = opens (fun o => ((own_kinds o).map fun names => decide ((0 : Int) < (names.length : Int))).all id) gs := rfl
theorem mem_open {gs o : List (List Str)} : o ∈ open_sets gs ↔ o.Sublist gs ∧ Opn o := by
  rw [open_eq, mem_opens (p := fun o => ((own_kinds o).map fun names => decide ((0 : Int) < (names.length : Int))).all id) ((p_own []).mpr opn_nil) (fun o x h => (p_own o).mpr (((p_own _).mp h).sub (List.sublist_append_left _ _))), p_own]
theorem mem_all_open {r : List Str × List (List Str)} {o : List (List Str)} : o ∈ all_open r ↔ o.Sublist r.2 ∧ Opn o := by
  unfold all_open; rw [srt_mem, mem_open]
theorem law_sets_eq (gs : List (List Str)) : law_sets gs = srt (ltL (ltL ltN)) (subs gs) := rfl
theorem mem_sets {gs o : List (List Str)} : o ∈ law_sets gs ↔ o.Sublist gs := by rw [law_sets_eq, srt_mem, mem_subs]
theorem all_open_eq {r : List Str × List (List Str)} (nd : r.2.Nodup) : all_open r = (law_sets r.2).filter fun lot => law_is_open lot := by
  have T : TotL (ltL (ltL ltN)) := totN.lst.lst
  refine ris_ext T ?_ ?_ fun x => ?_
  · exact (srt_asc T _).ris T ((srt_perm _).nodup_iff.mpr (nodup_opens nd))
  · exact ((srt_asc T _).ris T ((srt_perm _).nodup_iff.mpr (nodup_subs nd))).sublist List.filter_sublist
  · rw [mem_all_open, List.mem_filter, mem_sets, law_open]
theorem rising_sub {o : List (List Str)} (h : Ris (ltL ltN) o) : is_rising o = true := by
  unfold is_rising
  rw [List.all_eq_true]
  intro x hx
  simp only [List.mem_map] at hx
  obtain ⟨⟨a, b⟩, hz, rfl⟩ := hx
  obtain ⟨i, hi, e⟩ := List.getElem_of_mem hz
  rw [List.getElem_zip] at e
  have h1 : cutT o (some 1) none = o.drop 1 := by
    cases o with
    | nil => rfl
    | cons x xs => rw [show (some (1 : Int)) = some ((([] : List (List Str)).length : Int) + 1) from rfl]; exact cut_post [] xs x
  have hi' : i + 1 < o.length := by
    have := hi
    rw [List.length_zip, h1] at this
    simp at this; omega
  have e1 : (cutT o (some 1) none)[i]'(by rw [List.length_zip] at hi; omega) = o[i + 1] := by
    simp only [h1, List.getElem_drop]
    congr 1
    omega
  rw [e1] at e
  have := List.pairwise_iff_getElem.mp h i (i + 1) (by omega) hi' (by omega)
  simp only [Prod.mk.injEq] at e
  rw [← e.1, ← e.2]
  exact this
theorem group_set {r : List Str × List (List Str)} (h : GoodRules r) {o : List (List Str)} (s : o.Sublist r.2) : is_group_set r o = true := by
  unfold is_group_set
  have h1 : is_rising o = true := rising_sub (h.ris.sublist s)
  rw [h1]
  simp
  exact fun x hx => s.subset hx
theorem is_open_iff {r : List Str × List (List Str)} (h : GoodRules r) {o : List (List Str)} (s : o.Sublist r.2) : is_open r o = true ↔ Opn o := by
  unfold is_open
  rw [group_set h s, Bool.true_and, p_own]
end K

namespace K
open PySem DL
variable {Kd : List Str} {G : List (List Str)} {l o L : Str → Int}
theorem drawn {K : List Str} (nd : K.Nodup) {v : List Int} {b : Int} (h : (v.length : Int) = (K.length : Int) ∧ ∀ x ∈ v, 0 ≤ x ∧ x < b) : ∃ l : Str → Int, v = K.map l ∧ ∀ n ∈ K, 0 ≤ l n := by
  obtain ⟨l, e⟩ := as_map (l := v) nd (by omega)
  refine ⟨l, e, fun n hn => (h.2 (l n) (by rw [e]; exact List.mem_map_of_mem hn)).1⟩
theorem drawnG {r : List Str × List (List Str)} (hr : GoodRules r) {l : Str → Int} {lot v : List Int} {b : Int} (e : lot = r.1.map l) (l0 : ∀ n ∈ r.1, 0 ≤ l n) (h : v = law_loads r lot ∨ ((v.length : Int) = (r.2.length : Int) ∧ ∀ x ∈ v, 0 ≤ x ∧ x < b)) : ∃ L : List Str → Int, v = r.2.map L ∧ ∀ g ∈ r.2, 0 ≤ L g := by
  obtain ⟨Kd, G⟩ := r
  rcases h with h | h
  · subst e
    exact ⟨ld Kd l, h.trans (nf_law_loads Kd G l), fun g _ => ld_nonneg l0 g⟩
  · obtain ⟨L, e⟩ := as_map (l := v) hr.nodup (by omega)
    exact ⟨L, e, fun g hg => (h.2 (L g) (by rw [e]; exact List.mem_map_of_mem hg)).1⟩
theorem counted_eq (r : List Str × List (List Str)) (S : List (List Str)) : counted r S = r.1.map fun n => max 1 (cnt S n) := by
  unfold counted
  exact List.map_congr_left fun n _ => by rw [cnt_ite]
theorem nf_cover_sum (Kd : List Str) (G : List (List Str)) (l : Str → Int) (S : List (List Str)) : cover_sum (Kd, G) (Kd.map l) S = sm Kd fun n => l n * max 1 (cnt S n) := by
  unfold cover_sum
  rw [counted_eq, zipMM (δ := Int), mapM]
  show sm Kd _ = _
  exact sm_congr fun n _ => Int.mul_comm _ _
theorem nf_law_cover (Kd : List Str) (G : List (List Str)) (l : Str → Int) (S : List (List Str)) : law_cover (Kd, G) (Kd.map l) S = sm Kd fun n => l n * max 1 (cnt S n) := by
  unfold law_cover
  rw [zipM, mapM]
  show sm Kd _ = _
  exact sm_congr fun n _ => by rw [List.length_map, cnt_len]
/-- all that is more lies in some of these groups -/
def Cov (Kd : List Str) (l o : Str → Int) (S : List (List Str)) : Prop := ∀ n ∈ Kd, l n < o n → ∃ g ∈ S, n ∈ g
theorem cov_fil {S : List (List Str)} : (∀ n ∈ Kd.filter fun n => decide (l n < o n), ∃ g ∈ S, n ∈ g) ↔ Cov Kd l o S := by
  unfold Cov
  simp only [List.mem_filter, decide_eq_true_eq, and_imp]
theorem nf_is_covered (gs : List (List Str)) (ns : List Str) : is_covered gs ns = true ↔ ∀ n ∈ ns, ∃ g ∈ gs, n ∈ g := all_cov
abbrev Fl (Kd : List Str) (G : List (List Str)) (l : Str → Int) (L : List Str → Int) : List (List Str) := G.filter fun g => decide (L g ≤ ld Kd l g)
theorem nf_full_cover (Kd : List Str) (G : List (List Str)) (l o : Str → Int) (L : List Str → Int) : full_cover (Kd, G) (G.map L) (Kd.map l) (Kd.map o) = if (!is_covered (Fl Kd G l L) (Kd.filter fun n => decide (l n < o n))) = true then none else some (shrink (fun gs => is_covered gs (Kd.filter fun n => decide (l n < o n))) (Fl Kd G l L) (Fl Kd G l L)) := by
  unfold full_cover
  rw [nf_lacking, nf_filled]
  rfl
theorem full_cover_iff (Kd : List Str) (G : List (List Str)) (l o : Str → Int) (L : List Str → Int) : (full_cover (Kd, G) (G.map L) (Kd.map l) (Kd.map o)).isSome = true ↔ Cov Kd l o (Fl Kd G l L) := by
  rw [nf_full_cover, ← cov_fil, ← nf_is_covered]
  cases is_covered (Fl Kd G l L) (Kd.filter fun n => decide (l n < o n)) <;> simp
theorem full_cover_some {L : List Str → Int} {S : List (List Str)} (nd : G.Nodup) (h : full_cover (Kd, G) (G.map L) (Kd.map l) (Kd.map o) = some S) : S.Sublist (Fl Kd G l L) ∧ Opn S ∧ Cov Kd l o S := by
  rw [nf_full_cover] at h
  cases c : is_covered (Fl Kd G l L) (Kd.filter fun n => decide (l n < o n)) with
  | false => rw [c] at h; simp at h
  | true =>
    rw [c] at h
    simp at h
    subst h
    refine ⟨shrink_sub _ _ _, shrink_opn (fun gs => nf_is_covered gs _) (nd.sublist List.filter_sublist) c, ?_⟩
    rw [← cov_fil, ← nf_is_covered]
    exact shrink_q (fun gs => is_covered gs (Kd.filter fun n => decide (l n < o n))) _ _ c
theorem nf_is_full_cover {r : List Str × List (List Str)} (h : GoodRules r) {S : List (List Str)} (s : S.Sublist r.2) (l o : Str → Int) (L : List Str → Int) : is_full_cover r (r.2.map L) (r.1.map l) (r.1.map o) S = true ↔ (∀ g ∈ S, g ∈ Fl r.1 r.2 l L) ∧ Opn S ∧ Cov r.1 l o S := by
  have h1 := is_open_iff h s
  obtain ⟨Kd, G⟩ := r
  unfold is_full_cover
  rw [nf_lacking]
  dsimp only
  rw [nf_filled]
  have h2 : is_covered S (Kd.filter fun n => decide (l n < o n)) = true ↔ Cov Kd l o S := by rw [nf_is_covered, cov_fil]
  have h3 : ((S.map fun group => decide (group ∈ Fl Kd G l L)).all id) = true ↔ ∀ g ∈ S, g ∈ Fl Kd G l L := by simp
  by_cases c1 : is_open (Kd, G) S = true
  · by_cases c2 : is_covered S (Kd.filter fun n => decide (l n < o n)) = true
    · rw [c1, c2]
      simp only [Bool.not_true, Bool.or_self, Bool.false_eq_true, if_false]
      exact h3.trans ⟨fun q => ⟨q, h1.mp c1, h2.mp c2⟩, fun q => q.1⟩
    · have : is_covered S (Kd.filter fun n => decide (l n < o n)) = false := by simpa using c2
      rw [this]
      simp
      exact fun _ _ z => absurd (h2.mpr z) c2
  · have : is_open (Kd, G) S = false := by simpa using c1
    rw [this]
    simp
    exact fun _ z => absurd (h1.mpr z) c1
theorem nf_law_is_cover (Kd : List Str) (G : List (List Str)) {S : List (List Str)} (l o : Str → Int) (L : List Str → Int) : law_is_cover (Kd, G) (G.map L) (Kd.map l) (Kd.map o) S = true ↔ (∀ g ∈ S, g ∈ Fl Kd G l L) ∧ Opn S ∧ Cov Kd l o S := by
  unfold law_is_cover
  rw [nf_law_full, zipMM (δ := Int), zipM, filM, mapM, mapId]
  dsimp only
  rw [Bool.and_eq_true, Bool.and_eq_true, nil_cov, cov_fil, law_open]
  rw [decide_eq_true_eq, nilM, List.filter_eq_nil_iff]
  simp
/-! the checks of the law -/
theorem o_same1 {rules : List Str × List (List Str)} {open_so : List (List (List Str))} (h : GoodRules rules) (e : open_so = (law_sets rules.2).filter fun lot => law_is_open lot) : ((all_open rules), ((law_sets rules.2).map fun lot2 => (is_open rules lot2))) = (open_so, ((law_sets rules.2).map fun lot3 => (decide (lot3 ∈ open_so)))) := by
  refine Prod.ext (by rw [e]; exact all_open_eq h.nodup) (List.map_congr_left fun x hx => ?_)
  have h1 := is_open_iff h (mem_sets.mp hx)
  have h2 : x ∈ open_so ↔ Opn x := by rw [e, List.mem_filter, law_open]; exact ⟨fun q => q.2, fun q => ⟨hx, q⟩⟩
  by_cases c : Opn x
  · rw [h1.mpr c, decide_eq_true (h2.mpr c)]
  · rw [decide_eq_false fun z => c (h2.mp z)]
    simpa using fun z => c (h1.mp z)
theorem o_same2 {rules : List Str × List (List Str)} {groups own : List (List Str)} (nd : groups.Nodup) (e : own = groups.map fun group => (group.filter fun name => (decide (((groups.filter fun far => ((!decide (far = group)) && (decide (name ∈ far)))).map fun far => (1 : Int)) = ([] : List Int))))) : ((own_kinds groups), (counted rules groups)) = (own, (rules.1.map fun name2 => (max (1 : Int) (((groups.filter fun group3 => (decide (name2 ∈ group3))).map fun group3 => (1 : Int)).length : Int)))) := by
  refine Prod.ext ?_ ?_
  · rw [e, own_kinds_eq]
    refine List.map_congr_left fun g hg => List.filter_congr fun n hn => ?_
    congr 1
    rw [cnt_one nd hg hn, nilM, List.filter_eq_nil_iff]
    simp
  · rw [counted_eq]
    exact List.map_congr_left fun n _ => by rw [List.length_map, cnt_len]
theorem good_iff {more : List Str} {full : List (List Str)} {good : Bool} (e3 : good = decide (((more.filter fun name3 => (decide (((full.filter fun group4 => (decide (name3 ∈ group4))).map fun group4 => (1 : Int)) = ([] : List Int)))).map fun name3 => (1 : Int)) = ([] : List Int))) : good = true ↔ ∀ n ∈ more, ∃ g ∈ full, n ∈ g := by rw [e3]; exact nil_cov
section
variable {rules : List Str × List (List Str)} {lot other limits : List Int} {full : List (List Str)} {more : List Str} {good : Bool} {shown : Option (List (List Str))} {open_so : List (List (List Str))} {sums : List Int} {L : List Str → Int}
theorem good_cov (hl : lot = rules.1.map l) (ho : other = rules.1.map o) (hL : limits = rules.2.map L) (e1 : full = law_full rules limits lot)
    (e2 : more = (((rules.1.zip (lot.zip other)).filter fun z => decide (z.2.1 < z.2.2)).map fun z => z.1)) (e3 : good = decide (((more.filter fun name3 => (decide (((full.filter fun group4 => (decide (name3 ∈ group4))).map fun group4 => (1 : Int)) = ([] : List Int)))).map fun name3 => (1 : Int)) = ([] : List Int))) :
    good = true ↔ Cov rules.1 l o (Fl rules.1 rules.2 l L) := by
  rw [good_iff e3, e2, e1, hl, ho, hL, ← cov_fil, zipMM (δ := Int), zipM, filM, mapM, mapId]
  obtain ⟨Kd, G⟩ := rules
  rw [nf_law_full]
theorem o_same3 (h : GoodRules rules) (hl : lot = rules.1.map l) (ho : other = rules.1.map o) (hL : limits = rules.2.map L) (e1 : full = law_full rules limits lot)
    (e2 : more = (((rules.1.zip (lot.zip other)).filter fun z => decide (z.2.1 < z.2.2)).map fun z => z.1)) (e3 : good = decide (((more.filter fun name3 => (decide (((full.filter fun group4 => (decide (name3 ∈ group4))).map fun group4 => (1 : Int)) = ([] : List Int)))).map fun name3 => (1 : Int)) = ([] : List Int)))
    (e4 : shown = full_cover rules limits lot other) : ((full_groups rules limits lot), (loads rules lot), (shown).isNone) = (full, (law_loads rules lot), (!good)) := by
  have hg := good_cov hl ho hL e1 e2 e3
  have nd := h.nd
  have hs : ∀ g ∈ rules.2, g.Sublist rules.1 := fun g hg => h.sub hg
  obtain ⟨Kd, G⟩ := rules
  subst e1; subst e4; subst hl; subst ho; subst hL
  refine Prod.ext ?_ (Prod.ext ?_ ?_)
  · exact (nf_full_groups nd hs l L).trans (nf_law_full Kd G l L).symm
  · exact (nf_loads nd hs l).trans (nf_law_loads Kd G l).symm
  · show (full_cover (Kd, G) (G.map L) (Kd.map l) (Kd.map o)).isNone = !good
    have := (full_cover_iff Kd G l o L).trans hg.symm
    cases hh : full_cover (Kd, G) (G.map L) (Kd.map l) (Kd.map o) with
    | none =>
      rw [hh] at this
      cases good with
      | false => rfl
      | true => exact absurd (this.mpr rfl) (by decide)
    | some S =>
      rw [hh] at this
      cases good with
      | false => exact absurd (this.mp rfl) (by decide)
      | true => rfl
theorem shown_some (h : GoodRules rules) (hl : lot = rules.1.map l) (ho : other = rules.1.map o) (hL : limits = rules.2.map L) (e1 : full = law_full rules limits lot)
    (e2 : more = (((rules.1.zip (lot.zip other)).filter fun z => decide (z.2.1 < z.2.2)).map fun z => z.1)) (e3 : good = decide (((more.filter fun name3 => (decide (((full.filter fun group4 => (decide (name3 ∈ group4))).map fun group4 => (1 : Int)) = ([] : List Int)))).map fun name3 => (1 : Int)) = ([] : List Int)))
    (e4 : shown = full_cover rules limits lot other) (hg : good = true) : shown.isSome = true := by
  have hc := (good_cov hl ho hL e1 e2 e3).mp hg
  obtain ⟨Kd, G⟩ := rules
  subst e4; subst hl; subst ho; subst hL
  exact (full_cover_iff Kd G l o L).mpr hc
theorem shown_is (h : GoodRules rules) (hl : lot = rules.1.map l) (ho : other = rules.1.map o) (hL : limits = rules.2.map L) (e4 : shown = full_cover rules limits lot other) {S : List (List Str)} (hs : shown = some S) : S.Sublist rules.2 ∧ (∀ g ∈ S, g ∈ Fl rules.1 rules.2 l L) ∧ Opn S ∧ Cov rules.1 l o S := by
  obtain ⟨Kd, G⟩ := rules
  subst e4; subst hl; subst ho; subst hL
  obtain ⟨a, b, c⟩ := full_cover_some h.nodup hs
  exact ⟨a.trans List.filter_sublist, fun g hg => a.subset hg, b, c⟩
theorem o_same4 (h : GoodRules rules) (hl : lot = rules.1.map l) (ho : other = rules.1.map o) (hL : limits = rules.2.map L) {groups : List (List Str)} (s : groups.Sublist rules.2) : (is_full_cover rules limits lot other groups) = (law_is_cover rules limits lot other groups) := by
  subst hl; subst ho; subst hL
  have h1 := nf_is_full_cover h s l o L
  obtain ⟨Kd, G⟩ := rules
  have h2 := nf_law_is_cover Kd G (S := groups) l o L
  rw [Bool.eq_iff_iff]
  exact h1.trans h2.symm
theorem o_check5 (h : GoodRules rules) (hl : lot = rules.1.map l) (l0 : ∀ n ∈ rules.1, 0 ≤ l n) (ho : other = rules.1.map o) (o0 : ∀ n ∈ rules.1, 0 ≤ o n) (hL : limits = rules.2.map L) (e4 : shown = full_cover rules limits lot other) (hsh : good = true → shown.isSome = true) :
    (good && ((!(law_is_cover rules limits lot other (shown.getD ([] : (List (List Str)))))) || ((law_keeps rules limits other) && decide ((law_cover rules lot (shown.getD ([] : (List (List Str))))) < (other.sum))))) = false := by
  cases hg : good with
  | false => rfl
  | true =>
    obtain ⟨S, hS⟩ := Option.isSome_iff_exists.mp (hsh hg)
    obtain ⟨a, b, c, d⟩ := shown_is h hl ho hL e4 hS
    subst hl; subst ho; subst hL
    rw [hS]
    obtain ⟨Kd, G⟩ := rules
    show (true && ((!(law_is_cover (Kd, G) (G.map L) (Kd.map l) (Kd.map o) S)) || ((law_keeps (Kd, G) (G.map L) (Kd.map o)) && decide (law_cover (Kd, G) (Kd.map l) S < (Kd.map o).sum)))) = false
    rw [(nf_law_is_cover Kd G l o L).mpr ⟨b, c, d⟩]
    cases hk : law_keeps (Kd, G) (G.map L) (Kd.map o) with
    | false => rfl
    | true =>
      have hk' := (nf_law_keeps Kd G o L).mp hk
      simp only [Bool.not_true, Bool.false_or, Bool.true_and, decide_eq_false_iff_not, Int.not_lt]
      rw [nf_law_cover]
      show sm Kd o ≤ _
      refine cover_ineq d (fun g hg => ?_) l0 o0
      have := b g hg
      simp at this
      have := hk' g this.1
      omega
theorem o_same5 (h : GoodRules rules) (hl : lot = rules.1.map l) (e : open_so = (law_sets rules.2).filter fun lot => law_is_open lot) (es : sums = open_so.map fun groups3 => (law_cover rules lot groups3)) : ((greatest_beside rules lot), (open_so.map fun groups4 => (cover_sum rules lot groups4))) = ((maxL ltI (0 : Int) sums), sums) := by
  have h0 := all_open_eq h.nodup
  subst hl
  obtain ⟨Kd, G⟩ := rules
  have h1 : (open_so.map fun groups4 => (cover_sum (Kd, G) (Kd.map l) groups4)) = sums := by
    rw [es]
    exact List.map_congr_left fun S _ => (nf_cover_sum Kd G l S).trans (nf_law_cover Kd G l S).symm
  refine Prod.ext ?_ h1
  unfold greatest_beside
  rw [h0, ← h1, e]
theorem o_ne (e : open_so = (law_sets rules.2).filter fun lot => law_is_open lot) (es : sums = open_so.map fun groups3 => (law_cover rules lot groups3)) : sums ≠ [] := by
  have : ([] : List (List Str)) ∈ open_so := by rw [e, List.mem_filter]; exact ⟨mem_sets.mpr (List.nil_sublist _), (law_open []).mpr opn_nil⟩
  intro z
  rw [es, List.map_eq_nil_iff] at z
  rw [z] at this
  cases this
theorem o_sums (h : GoodRules rules) (hl : lot = rules.1.map l) (e : open_so = (law_sets rules.2).filter fun lot => law_is_open lot) (es : sums = open_so.map fun groups3 => (law_cover rules lot groups3)) : maxL ltI (0 : Int) sums = greatest_beside rules lot := (congrArg Prod.fst (o_same5 h hl e es)).symm
/-! the paper beside -/
structure Beside (Kd : List Str) (G : List (List Str)) (l : Str → Int) (S : List (List Str)) (o : Str → Int) : Prop where
  sub : S.Sublist G
  opn : Opn S
  non : ∀ n ∈ Kd, 0 ≤ o n
  sum : sm Kd o = sm Kd fun n => l n * max 1 (cnt S n)
  load : ∀ g ∈ S, ld Kd o g = ld Kd l g
  cov : ∀ n ∈ Kd, l n < o n → ∃ g ∈ S, n ∈ g
end
end K

namespace K
open PySem DL
variable {Kd : List Str} {G : List (List Str)} {l o L : Str → Int}
theorem ixT0 {α : Type} {d : α} {xs : List α} (h : xs ≠ []) : ixT d xs 0 ∈ xs := by
  cases xs with
  | nil => exact absurd rfl h
  | cons x xs => exact List.mem_cons_self
theorem best_set (r : List Str × List (List Str)) (lot : List Int) : ixT ([] : List (List Str)) ((all_open r).filter fun groups => decide (cover_sum r lot groups = greatest_beside r lot)) (0 : Int) ∈ (all_open r).filter fun groups => decide (cover_sum r lot groups = greatest_beside r lot) := by
  apply ixT0
  have h0 : ([] : List (List Str)) ∈ all_open r := mem_all_open.mpr ⟨List.nil_sublist _, opn_nil⟩
  have h := maxL_mem (lt := ltI) (d := (0 : Int)) (xs := (all_open r).map fun groups => cover_sum r lot groups) (fun z => by rw [List.map_eq_nil_iff] at z; rw [z] at h0; cases h0)
  obtain ⟨o, ho, eo⟩ := List.mem_map.mp h
  exact List.ne_nil_of_mem (List.mem_filter.mpr ⟨ho, decide_eq_true eo⟩)
theorem look_zero (d : Int) : ∀ (S : List (List Str)) (t : List (Str × Int)) (n : Str), (∀ g ∈ S, ∀ n ∈ g, n ∈ t.map (·.1)) → lookD d (S.foldl (fun t g => g.foldl (fun t n => setS t n 0) t) t) n = if ∃ g ∈ S, n ∈ g then 0 else lookD d t n
  | [], t, n, _ => by simp
  | g :: S, t, n, h => by
    have hk : (g.foldl (fun t n => setS t n (0 : Int)) t).map (·.1) = t.map (·.1) := fold_keys _ (fun t x => setS_keys _ _ _) g t
    rw [List.foldl_cons, look_zero d S _ n (fun k hk' m hm => by rw [hk]; exact h k (List.mem_cons_of_mem _ hk') m hm)]
    have h2 := look_puts d (fun n : Str => n) (fun _ => (0 : Int)) g t n (fun z hz => h g List.mem_cons_self z hz) (fun _ _ _ _ _ => rfl)
    by_cases c : ∃ k ∈ S, n ∈ k
    · obtain ⟨k, hk', kn⟩ := c
      rw [if_pos ⟨k, hk', kn⟩, if_pos ⟨k, List.mem_cons_of_mem _ hk', kn⟩]
    · rw [if_neg c]
      by_cases gn : n ∈ g
      · rw [if_pos ⟨g, List.mem_cons_self, gn⟩]
        exact h2.1 n gn rfl
      · rw [if_neg]
        · exact h2.2 fun z hz e => gn (e ▸ hz)
        · rintro ⟨k, hk', kn⟩
          rcases List.mem_cons.mp hk' with rfl | hk'
          · exact gn kn
          · exact c ⟨k, hk', kn⟩
theorem beside_nf {r : List Str × List (List Str)} (h : GoodRules r) {lot : List Int} (hl : lot = r.1.map l) (l0 : ∀ n ∈ r.1, 0 ≤ l n) :
    ∃ (S : List (List Str)) (o : Str → Int) (L : List Str → Int), beside_paper r lot = (r.2.map L, r.1.map o) ∧ Beside r.1 r.2 l S o ∧ (∀ g, L g = if g ∈ S then ld r.1 l g else ld r.1 l g + ld r.1 o g + 1) ∧ sm r.1 o = greatest_beside r lot := by
  have nd := h.nd
  have hm := h.mem
  have nG := h.nodup
  obtain ⟨Kd, G⟩ := r
  have hb := best_set (Kd, G) lot
  generalize eS : ixT ([] : List (List Str)) ((all_open (Kd, G)).filter fun groups => decide (cover_sum (Kd, G) lot groups = greatest_beside (Kd, G) lot)) (0 : Int) = S at hb
  rw [List.mem_filter, mem_all_open, decide_eq_true_eq] at hb
  obtain ⟨⟨sub, opn⟩, hsum⟩ := hb
  dsimp only at sub nd hm nG
  have ndS := nG.sublist sub
  let f : List Str → Str := fun g => ixT (Str.ofString "") (g.filter fun name => decide (cnt S name = 1)) 0
  have hf : ∀ g ∈ S, f g ∈ Kd ∧ f g ∈ g ∧ cnt S (f g) = 1 := fun g hg => by
    obtain ⟨n, hn, e⟩ := opn g hg
    have : f g ∈ g.filter fun name => decide (cnt S name = 1) := ixT0 (List.ne_nil_of_mem (List.mem_filter.mpr ⟨hn, decide_eq_true e⟩))
    rw [List.mem_filter, decide_eq_true_eq] at this
    exact ⟨hm g (sub.subset hg) _ this.1, this.1, this.2⟩
  let o : Str → Int := fun n => (if cnt S n = 0 then l n else 0) + sm S fun g => if n = f g then ld Kd l g else 0
  let t0 : List (Str × Int) := Kd.map fun n => (n, l n)
  let t6 := S.foldl (fun t g => g.foldl (fun t n => setS t n (0 : Int)) t) t0
  let t9 := S.foldl (fun t g => setS t (f g) (ld Kd l g)) t6
  have k0 : t0.map (·.1) = Kd := by simp [t0, Function.comp_def]
  have k6 : t6.map (·.1) = Kd := (fold_keys _ (fun t x => fold_keys _ (fun t x => setS_keys _ _ _) _ _) S t0).trans k0
  have ho : ∀ n ∈ Kd, lookD 0 t9 n = o n := fun n hn => by
    have h9 := look_puts (0 : Int) f (ld Kd l) S t6 n (fun g hg => by rw [k6]; exact (hf g hg).1) (fun g hg k hk e => by
      rw [cnt_uniq (hf g hg).2.2 hg hk (hf g hg).2.1 (by rw [e]; exact (hf k hk).2.1)])
    have h6 : lookD 0 t6 n = if ∃ g ∈ S, n ∈ g then 0 else lookD 0 t0 n := look_zero 0 S t0 n (fun g hg m hm' => by rw [k0]; exact hm g (sub.subset hg) m hm')
    have h0 : lookD 0 t0 n = l n := look_map 0 l hn
    show lookD 0 t9 n = (if cnt S n = 0 then l n else 0) + sm S fun g => if n = f g then ld Kd l g else 0
    by_cases c : ∃ g ∈ S, f g = n
    · obtain ⟨g, hg, e⟩ := c
      rw [h9.1 g hg e, if_neg (by rw [← e, (hf g hg).2.2]; decide)]
      rw [sm_congr (g := fun k => if k = g then ld Kd l g else 0), sm_pick ndS hg]
      · omega
      · intro k hk
        by_cases ek : k = g
        · rw [if_pos ek, if_pos (by rw [ek]; exact e.symm), ek]
        · rw [if_neg ek, if_neg]
          intro z
          exact ek (cnt_uniq (hf g hg).2.2 hk hg (by rw [e, z]; exact (hf k hk).2.1) (hf g hg).2.1)
    · rw [h9.2 fun g hg e => c ⟨g, hg, e⟩, h6, h0]
      rw [sm_congr (g := fun _ => 0) (fun g hg => if_neg fun z => c ⟨g, hg, z.symm⟩), sm_zero]
      by_cases d : cnt S n = 0
      · rw [if_pos d, if_neg]
        · omega
        · rintro ⟨g, hg, gn⟩
          exact cnt_zero.mp d g hg gn
      · rw [if_neg d, if_pos]
        · rfl
        · have := cnt_nonneg S n
          exact cnt_pos.mp (by omega)
  refine ⟨S, o, fun g => if g ∈ S then ld Kd l g else ld Kd l g + ld Kd o g + 1, ?_, ⟨sub, opn, ?_, beside_sum nd (fun g hg => (hf g hg).1), fun g hg => beside_load nd ndS hf hg, ?_⟩, fun g => rfl, ?_⟩
  · have e2 : (Kd.map fun name2 => lookD (0 : Int) t9 name2) = Kd.map o := List.map_congr_left ho
    have e9 : ((S.zip (own_kinds S)).foldl (fun (t : List (Str × Int)) (z2 : List Str × List Str) => setS t (ixT (Str.ofString "") z2.2 (0 : Int)) (load_of (Kd, G) lot z2.1)) t6) = t9 := by
      rw [own_kinds_eq, zipM, List.foldl_map]
      show S.foldl (fun t g => setS t (f g) (load_of (Kd, G) lot g)) t6 = S.foldl (fun t g => setS t (f g) (ld Kd l g)) t6
      rw [hl]
      simp only [nf_load_of]
    have et : ((Kd.zip lot).map fun z => (z.1, z.2)) = t0 := by rw [hl, zipM, mapM]
    unfold beside_paper
    dsimp only
    rw [eS, et]
    rw [e9, e2, hl]
    rw [nf_loads_of, nf_loads_of, zipMM (δ := Int), zipM, mapM]
    refine Prod.ext (List.map_congr_left fun g hg => ?_) rfl
    dsimp only
    by_cases c : g ∈ S <;> simp [c]
  · intro n hn
    have : 0 ≤ sm S fun g => if n = f g then ld Kd l g else 0 := sm_nonneg fun g hg => by
      split
      · exact ld_nonneg l0 g
      · omega
    have := l0 n hn
    show 0 ≤ (if cnt S n = 0 then l n else 0) + sm S fun g => if n = f g then ld Kd l g else 0
    split <;> omega
  · intro n hn
    show l n < (if cnt S n = 0 then l n else 0) + (sm S fun g => if n = f g then ld Kd l g else 0) → _
    intro q
    apply Classical.byContradiction
    intro z
    have c : cnt S n = 0 := cnt_zero.mpr fun g hg gn => z ⟨g, hg, gn⟩
    rw [if_pos c, sm_congr (g := fun _ => 0) (fun g hg => if_neg fun e => z ⟨g, hg, by rw [e]; exact (hf g hg).2.1⟩), sm_zero] at q
    omega
  · rw [← hsum, hl, nf_cover_sum]
    exact beside_sum nd (fun g hg => (hf g hg).1)
section
variable {rules : List Str × List (List Str)} {lot bounds far : List Int} {lack : List Str} {S : List (List Str)} {L : List Str → Int}
theorem bs_full (h : GoodRules rules) (l0 : ∀ n ∈ rules.1, 0 ≤ l n) (b : Beside rules.1 rules.2 l S o) (hL : ∀ g, L g = if g ∈ S then ld rules.1 l g else ld rules.1 l g + ld rules.1 o g + 1) {g : List Str} : g ∈ Fl rules.1 rules.2 l L ↔ g ∈ S := by
  rw [List.mem_filter, decide_eq_true_eq, hL]
  constructor
  · rintro ⟨h1, h2⟩
    apply Classical.byContradiction
    intro z
    rw [if_neg z] at h2
    have := ld_nonneg b.non g
    omega
  · intro hg
    rw [if_pos hg]
    exact ⟨b.sub.subset hg, Int.le_refl _⟩
theorem bs_keeps1 (b : Beside rules.1 rules.2 l S o) (hL : ∀ g, L g = if g ∈ S then ld rules.1 l g else ld rules.1 l g + ld rules.1 o g + 1) : ∀ g ∈ rules.2, ld rules.1 l g ≤ L g := fun g hg => by
  rw [hL]
  have := ld_nonneg b.non g
  split <;> omega
theorem bs_keeps2 (l0 : ∀ n ∈ rules.1, 0 ≤ l n) (b : Beside rules.1 rules.2 l S o) (hL : ∀ g, L g = if g ∈ S then ld rules.1 l g else ld rules.1 l g + ld rules.1 o g + 1) : ∀ g ∈ rules.2, ld rules.1 o g ≤ L g := fun g hg => by
  rw [hL]
  have := ld_nonneg l0 g
  split
  · rename_i q
    rw [b.load g q]; exact Int.le_refl _
  · omega
theorem bs_cov (h : GoodRules rules) (l0 : ∀ n ∈ rules.1, 0 ≤ l n) (b : Beside rules.1 rules.2 l S o) (hL : ∀ g, L g = if g ∈ S then ld rules.1 l g else ld rules.1 l g + ld rules.1 o g + 1) : Cov rules.1 l o (Fl rules.1 rules.2 l L) := fun n hn q => by
  obtain ⟨g, hg, gn⟩ := b.cov n hn q
  exact ⟨g, (bs_full h l0 b hL).mpr hg, gn⟩
variable (h : GoodRules rules) (hl : lot = rules.1.map l) (l0 : ∀ n ∈ rules.1, 0 ≤ l n) (e1 : bounds = (beside_paper rules lot).1) (e2 : far = (beside_paper rules lot).2)
include h hl l0 e1 e2
theorem o_check7 {m : Int} (hm : m = greatest_beside rules lot) : ((!decide ((far.sum) = m)) || ((!(law_keeps rules bounds lot)) || ((!(law_keeps rules bounds far)) || ((full_cover rules bounds lot far)).isNone))) = false := by
  obtain ⟨S, o, L, e, b, hL, hs⟩ := beside_nf h hl l0
  have k1 := bs_keeps1 b hL
  have k2 := bs_keeps2 l0 b hL
  have k3 := bs_cov h l0 b hL
  rw [e] at e1 e2
  subst e1; subst e2; subst hm
  rw [← hs]
  subst hl
  obtain ⟨Kd, G⟩ := rules
  rw [(nf_law_keeps Kd G l L).mpr k1, (nf_law_keeps Kd G o L).mpr k2]
  have := (full_cover_iff Kd G l o L).mpr k3
  dsimp only
  cases hh : full_cover (Kd, G) (G.map L) (Kd.map l) (Kd.map o) with
  | none => rw [hh] at this; cases this
  | some S => simp [sm]
theorem o_check8 (el : lack = (((rules.1.zip (lot.zip far)).filter fun z2 => decide (z2.2.1 < z2.2.2)).map fun z2 => z2.1)) : (!decide (((lack.filter fun name4 => (decide ((((law_full rules bounds lot).filter fun group5 => (decide (name4 ∈ group5))).map fun group5 => (1 : Int)) = ([] : List Int)))).map fun name4 => (1 : Int)) = ([] : List Int))) = false := by
  obtain ⟨S, o, L, e, b, hL, hs⟩ := beside_nf h hl l0
  have k3 := bs_cov h l0 b hL
  rw [e] at e1 e2
  subst e1; subst e2; subst hl
  dsimp only at el
  rw [zipMM (δ := Int), zipM, filM, mapM, mapId] at el
  obtain ⟨Kd, G⟩ := rules
  dsimp only
  rw [nf_law_full, nil_cov.mpr]
  · rfl
  · rw [el, cov_fil]
    exact k3
theorem o_beside : is_beside rules lot (bounds, far) = true := by
  obtain ⟨S, o, L, e, b, hL, hs⟩ := beside_nf h hl l0
  have k1 := bs_keeps1 b hL
  have k2 := bs_keeps2 l0 b hL
  have k3 := bs_cov h l0 b hL
  rw [e] at e1 e2
  subst e1; subst e2; subst hl
  obtain ⟨Kd, G⟩ := rules
  unfold is_beside
  dsimp only
  have a1 : is_limits (Kd, G) (G.map L) = true := (nf_is_limits Kd G L).mpr fun g hg => by
    have := k1 g hg
    have := ld_nonneg l0 g
    omega
  have a2 : is_demands (Kd, G) (Kd.map o) = true := (nf_is_demands Kd G o).mpr b.non
  have a3 := (nf_keeps_all Kd G l L).mpr k1
  have a4 := (nf_keeps_all Kd G o L).mpr k2
  have a5 : is_covered (filled (Kd, G) (G.map L) (Kd.map l)) (lacking (Kd, G) (Kd.map l) (Kd.map o)) = true := by
    rw [nf_filled, nf_lacking, nf_is_covered, cov_fil]; exact k3
  rw [a1, a2, a3, a4, a5]
  simp
  exact hs
theorem o_beside2 : is_beside rules lot (bounds, ((cutT far none (some ((far.length : Int) - (1 : Int)))) ++ (((ixT (0 : Int) far ((far.length : Int) - (1 : Int))) + (1 : Int)) :: ([] : List Int)))) = false := by
  have hn : far.sum + 1 = ((cutT far none (some ((far.length : Int) - (1 : Int)))) ++ (((ixT (0 : Int) far ((far.length : Int) - (1 : Int))) + (1 : Int)) :: ([] : List Int))).sum := by
    obtain ⟨S, o, L, e, b, hL, hs⟩ := beside_nf h hl l0
    have hne : far ≠ [] := by
      rw [e2, e]
      intro z
      have z' : rules.1 = [] := List.map_eq_nil_iff.mp z
      have := h.len
      rw [z'] at this
      exact absurd this.1 (by decide)
    clear e1 e2
    rcases List.eq_nil_or_concat far with z | ⟨a, x, rfl⟩
    · exact absurd z hne
    · rw [List.concat_eq_append]
      have : ((a ++ [x]).length : Int) - 1 = (a.length : Int) := by simp
      rw [this, cut_pre]
      have : ixT (0 : Int) (a ++ [x]) (a.length : Int) = x := by
        unfold ixT
        rw [if_neg (by omega)]
        simp
      rw [this]
      simp
      omega
  have h1 : far.sum = greatest_beside rules lot := by
    obtain ⟨S, o, L, e, b, hL, hs⟩ := beside_nf h hl l0
    rw [e2, e, ← hs]; rfl
  generalize ((cutT far none (some ((far.length : Int) - (1 : Int)))) ++ (((ixT (0 : Int) far ((far.length : Int) - (1 : Int))) + (1 : Int)) :: ([] : List Int))) = w at hn ⊢
  have : decide (w.sum = greatest_beside rules lot) = false := by
    rw [decide_eq_false_iff_not]; omega
  unfold is_beside
  dsimp only
  rw [this]
  split
  · rfl
  · split
    · rfl
    · split <;> rfl
theorem o_same6 {got : List Bool} (eg : got = ((is_beside rules lot (bounds, far)) :: ((is_beside rules lot (bounds, ((cutT far none (some ((far.length : Int) - (1 : Int)))) ++ (((ixT (0 : Int) far ((far.length : Int) - (1 : Int))) + (1 : Int)) :: ([] : List Int))))) :: ((is_beside_list rules lot (bounds, far)) :: ([] : List Bool))))) : got = (true :: (false :: (false :: ([] : List Bool)))) := by
  rw [eg, o_beside h hl l0 e1 e2, o_beside2 h hl l0 e1 e2]
  rfl
end
section
variable {rules : List Str × List (List Str)} {lot limits wants : List Int} {reach : Bool} {w : Str → Int} {L : List Str → Int}
theorem drawnW {K : List Str} (nd : K.Nodup) (hl : lot = K.map l) (l0 : ∀ n ∈ K, 0 ≤ l n) {b : Int} (h : wants.length = lot.length ∧ ∀ (k : Nat) (near : Int) (z : Int), lot[k]? = some near → wants[k]? = some z → ∃ x y, x = near ∧ (0 ≤ y ∧ y < b) ∧ z = x + y) : ∃ w : Str → Int, wants = K.map w ∧ ∀ n ∈ K, l n ≤ w n := by
  obtain ⟨w, e⟩ := as_map (l := wants) nd (by rw [h.1, hl]; simp)
  refine ⟨w, e, fun n hn => ?_⟩
  obtain ⟨k, hk, ek⟩ := List.getElem_of_mem hn
  obtain ⟨x, y, h1, h2, h3⟩ := h.2 k (l n) (w n) (by rw [hl, List.getElem?_map, List.getElem?_eq_getElem hk, ek]; rfl) (by rw [e, List.getElem?_map, List.getElem?_eq_getElem hk, ek]; rfl)
  omega
theorem o_same7 (h : GoodRules rules) (hl : lot = rules.1.map l) (l0 : ∀ n ∈ rules.1, 0 ≤ l n) (hw : wants = rules.1.map w) (w0 : ∀ n ∈ rules.1, l n ≤ w n) (hL : limits = rules.2.map L) (er : reach = (((full_cover rules limits lot wants)).isSome && (keeps rules limits lot))) : (is_end rules limits wants lot) = reach := by
  have nd := h.nd
  have hs : ∀ g ∈ rules.2, g.Sublist rules.1 := fun g hg => h.sub hg
  subst hl; subst hw; subst hL; subst er
  obtain ⟨Kd, G⟩ := rules
  unfold is_end
  have a1 : is_demands (Kd, G) (Kd.map l) = true := (nf_is_demands Kd G l).mpr l0
  have a2 : ((((Kd.map l).zip (Kd.map w)).map fun z => decide (z.2 < z.1)).any id) = false := by
    rw [zipMM (δ := Int), mapM, List.any_eq_false]
    simp only [List.mem_map, id, forall_exists_index, and_imp, forall_apply_eq_imp_iff₂, decide_eq_true_eq]
    intro n hn
    have := w0 n hn
    omega
  dsimp only
  rw [a1, a2]
  have a3 : is_shut (Kd, G) (G.map L) (Kd.map w) (Kd.map l) = (full_cover (Kd, G) (G.map L) (Kd.map l) (Kd.map w)).isSome := by
    rw [Bool.eq_iff_iff, full_cover_iff]
    unfold is_shut
    dsimp only
    have e3 : (((Kd.zip ((Kd.map l).zip (Kd.map w))).filter fun z => decide (z.2.1 < z.2.2)).map fun z => z.1) = Kd.filter fun n => decide (l n < w n) := by rw [zipMM (δ := Int), zipM, filM, mapM, mapId]
    rw [nf_full_groups nd hs, e3, all_cov, cov_fil]
  show (keeps (Kd, G) (G.map L) (Kd.map l) && is_shut (Kd, G) (G.map L) (Kd.map w) (Kd.map l)) = _
  rw [a3, Bool.and_comm]
end
end K

namespace K
open PySem DL
section
variable {rules : List Str × List (List Str)} {lot other limits far bounds : List Int} {open_so : List (List (List Str))} {groups : List (List Str)} {good : Bool} {shown : Option (List (List Str))} {l o : Str → Int} {L : List Str → Int}
theorem o_few (h : GoodRules rules) : rules.2.length ≤ 12 := Nat.le_trans h.few (by decide)
theorem o_few1 (h : GoodRules rules) : rules.1.length ≤ 12 := Nat.le_trans h.len.2 (by decide)
theorem o_eqlen {K : List Str} (hl : lot = K.map l) : K.length = lot.length := by rw [hl, List.length_map]
theorem o_sub {rules : List Str × List (List Str)} {open_so : List (List (List Str))} (e : open_so = (law_sets rules.2).filter fun lot => law_is_open lot) (hg : groups ∈ open_so) : groups.Sublist rules.2 := by
  rw [e, List.mem_filter, mem_sets] at hg
  exact hg.1
theorem o_sub6 (e : open_so = (law_sets rules.2).filter fun lot => law_is_open lot) (hg : groups ∈ cutT open_so none (some (6 : Int))) : groups.Sublist rules.2 := o_sub e ((cut_sub _ _ _).subset hg)
theorem o_short (h : GoodRules rules) (s : groups.Sublist rules.2) : groups.length ≤ 12 := Nat.le_trans s.length_le (o_few h)
theorem o_shsub (h : GoodRules rules) (hl : lot = rules.1.map l) (ho : other = rules.1.map o) (hL : limits = rules.2.map L) (e4 : shown = full_cover rules limits lot other) : (shown.getD []).Sublist rules.2 := by
  cases hs : shown with
  | none => exact List.nil_sublist _
  | some S => exact (shown_is h hl ho hL e4 hs).1
theorem o_sub4 (h : GoodRules rules) (hl : lot = rules.1.map l) (ho : other = rules.1.map o) (hL : limits = rules.2.map L) (e4 : shown = full_cover rules limits lot other) (hg : groups ∈ (law_sets rules.2) ++ (if good = true then ((shown.getD ([] : List (List Str))) :: ([] : List (List (List Str)))) else ([] : List (List (List Str))))) : groups.Sublist rules.2 := by
  rcases List.mem_append.mp hg with hg | hg
  · exact mem_sets.mp hg
  · split at hg
    · rw [List.mem_singleton] at hg
      rw [hg]
      exact o_shsub h hl ho hL e4
    · cases hg
theorem o_farix (h : GoodRules rules) (hl : lot = rules.1.map l) (l0 : ∀ n ∈ rules.1, 0 ≤ l n) (e2 : far = (beside_paper rules lot).2) : -(far.length : Int) ≤ (far.length : Int) - 1 ∧ (far.length : Int) - 1 < far.length := by
  obtain ⟨S, o, L, e, b, hL, hs⟩ := beside_nf h hl l0
  have : far.length = rules.1.length := by rw [e2, e]; simp
  have := h.len
  omega
theorem o_cat4 (h : GoodRules rules) : (law_sets rules.2).length + (if good = true then ((shown.getD ([] : List (List Str))) :: ([] : List (List (List Str)))) else ([] : List (List (List Str)))).length ≤ 1000000 := by
  rw [law_sets_eq, srt_len, len_subs]
  have h1 : 2 ^ rules.2.length ≤ 2 ^ 4 := Nat.pow_le_pow_right (by decide) h.few
  have h2 : (if good = true then ((shown.getD ([] : List (List Str))) :: ([] : List (List (List Str)))) else ([] : List (List (List Str)))).length ≤ 1 := by split <;> simp
  omega
theorem o_cat6 (h : GoodRules rules) (hl : lot = rules.1.map l) (l0 : ∀ n ∈ rules.1, 0 ≤ l n) (e2 : far = (beside_paper rules lot).2) {x : Int} : (cutT far none (some ((far.length : Int) - 1))).length + [x].length ≤ 1000000 := by
  obtain ⟨S, o, L, e, b, hL, hs⟩ := beside_nf h hl l0
  have h1 : far.length = rules.1.length := by rw [e2, e]; simp
  have h2 := h.len
  have h3 := (cut_sub far none (some ((far.length : Int) - 1))).length_le
  simp only [List.length_cons, List.length_nil]
  omega
end
end K

namespace K
open PySem PySem.Spec PyProof.Rows L2 DL
variable {Pr : Program} {w : World} {K : PySem.W.Frag} {mg : Str → Option Value} {base : Heap} {f : Addr} {fd : FuncData}

theorem sc_law : FnScope ["script", "urn", "lap", "rules", "open_so", "lot", "given", "groups", "own", "name", "far", "group", "other", "limits", "full", "more", "near", "good", "shown", "sums", "bounds", "lack", "much", "got", "wants", "reach"] ["script"] (defScope s_law) := ⟨rfl, rfl, rfl, by decide +kernel, rfl, by decide +kernel, by decide +kernel⟩
theorem ok_law (F : FnP K "law" s_law f fd) (FB : FnS Pr w K mg base "_law_box" 1 ["script", "k"] spBox) (FC : FnS Pr w K mg base "_law_cells" 1 ["script", "many"] (spCells K)) (F_law_take : FnU Pr w K mg base "_law_take" 1 ["urn", "below"] 1 P_law_take) (F_law_rules : FnU Pr w K mg base "_law_rules" 2 ["urn"] 20 P_law_rules) (F_law_numbers : FnU Pr w K mg base "_law_numbers" 2 ["urn", "many", "below"] 16 P_law_numbers) (F_law_soft : FnF Pr w K mg base "_law_soft" 7 ["matter"] (P_law_soft 6)) (F_law_same : FnF Pr w K mg base "_law_same" 7 ["got", "due"] (P_law_same 6)) (m_len : mg "len" = none) (m_max : mg "max" = none) (m_range : mg "range" = none) (m_sum : mg "sum" = none) (m_tuple : mg "tuple" = none) (m_zip : mg "zip" = none) (F_law_cover : FnF Pr w K mg base "_law_cover" 1 ["rules", "lot", "groups"] P_law_cover) (F_law_full : FnF Pr w K mg base "_law_full" 2 ["rules", "limits", "lot"] P_law_full) (F_law_is_cover : FnF Pr w K mg base "_law_is_cover" 3 ["rules", "limits", "lot", "other", "groups"] P_law_is_cover) (F_law_is_open : FnF Pr w K mg base "_law_is_open" 1 ["groups"] P_law_is_open) (F_law_keeps : FnF Pr w K mg base "_law_keeps" 2 ["rules", "limits", "lot"] P_law_keeps) (F_law_loads : FnF Pr w K mg base "_law_loads" 1 ["rules", "lot"] P_law_loads) (F_law_sets : FnF Pr w K mg base "_law_sets" 1 ["things"] P_law_sets) (F_all_open : FnF Pr w K mg base "all_open" 10 ["rules"] P_all_open) (F_beside_paper : FnF Pr w K mg base "beside_paper" 12 ["rules", "lot"] P_beside_paper) (F_counted : FnF Pr w K mg base "counted" 1 ["rules", "groups"] P_counted) (F_cover_sum : FnF Pr w K mg base "cover_sum" 2 ["rules", "lot", "groups"] P_cover_sum) (F_full_cover : FnF Pr w K mg base "full_cover" 10 ["rules", "limits", "lot", "other"] P_full_cover) (F_full_groups : FnF Pr w K mg base "full_groups" 10 ["rules", "limits", "lot"] P_full_groups) (F_greatest_beside : FnF Pr w K mg base "greatest_beside" 11 ["rules", "lot"] P_greatest_beside) (F_is_beside : FnF Pr w K mg base "is_beside" 12 ["rules", "lot", "thing"] (fun ds d => P_is_beside ds d ∨ P_is_beside_list ds d)) (F_is_end : FnF Pr w K mg base "is_end" 12 ["rules", "limits", "demands", "thing"] P_is_end) (F_is_full_cover : FnF Pr w K mg base "is_full_cover" 10 ["rules", "limits", "lot", "other", "thing"] P_is_full_cover) (F_is_open : FnF Pr w K mg base "is_open" 9 ["rules", "thing"] P_is_open) (F_keeps : FnF Pr w K mg base "keeps" 10 ["rules", "limits", "lot"] P_keeps) (F_loads : FnF Pr w K mg base "loads" 8 ["rules", "lot"] P_loads) (F_own_kinds : FnF Pr w K mg base "own_kinds" 8 ["groups"] P_own_kinds) : FnOk Pr w K mg base CX0 13 f fd ["script"] (spLaw K) := by
  refine fn_okLaw (i := 1) F sc_law (by decide) (by decide) fun cdv A outer s H E hr g => ⟨ps_urn FB FC (hr.mono (by decide)) g, ?_⟩
  refine st_forJ (i := 1) (c := 0) (m := 0) (gt := gName 2) (Q1 := fun n => n = (3 : Int)) g [2] m_range (ij_pure (fun mq => ev_int) rfl) rfl (OneU.of rfl) (by decide) (fun n q => by subst q; decide) (fun n j G => ∃ m2 : Nat, m2 ≤ 1000 * j ∧ G = [.no, .urn m2, .no, .no, .no, .no, .no, .no, .no, .no, .no, .no, .no, .no, .no, .no, .no, .no, .no, .no, .no, .no, .no, .no, .no, .no]) (pg_name (i := 2) g.nd rfl (by first | exact Or.inl rfl | exact Or.inr rfl)) (fun n q => ⟨0, Nat.zero_le _, rfl⟩) ?_ ?_
  · rintro n j G0 hn hj ⟨m2, hm2, rfl⟩
    subst hn
    have hbig : m2 + 1000 ≤ big := by unfold big; omega
    refine ⟨_, bd_name, ?_⟩
    refine st_setD (i := 1) (l := 3) (m := m2) (c := 20) (E := (eP (eT eN) (eT (eT eN)))) (Q := GoodRules) (d_rules F_law_rules (hr.mono (by decide))) g (fun rules h_rules => ?_) (by omega)
    refine st_letD (i := 4) ((law_sets rules.2).filter fun lot => (law_is_open lot)) (fun v => ((eL (eT (eT eN))).f v)) (s_set (LcB.ev (b_fil (own := [("lot", 5)]) (gt := gName 5) (eT (eT eN)) (law_sets rules.2) (fun lot => (law_is_open lot)) (fun lot => [.no, .urn (m2 + 20), .val (.int j), .val ((eP (eT eN) (eT (eT eN))).f rules), .no, .val ((eT (eT eN)).f lot), .no, .no, .no, .no, .no, .no, .no, .no, .no, .no, .no, .no, .no, .no, .no, .no, .no, .no, .no, .no]) g (ti_seq (eT (eT eN)) (law_sets rules.2) (ev_fn F_law_sets (hr.mono (by decide)) (av_cons (ev_ix (d := ((eT (eT eN)).f rules.2)) (ev_nm (d := ((eP (eT eN) (eT (eT eN))).f rules)) 3) ev_int (sqT _) rfl) av_nil) ⟨rules.2, rfl, (by first | rfl | exact o_few h_rules | exact o_few1 h_rules | exact h_rules.nd | exact h_rules.mem | exact o_eqlen hl | exact o_eqlen ho | exact o_short h_rules (o_sub6 e_open_so h_groups) | exact o_short h_rules (o_sub e_open_so h_groups3) | exact o_short h_rules (o_sub e_open_so h_groups4) | exact o_short h_rules (o_sub4 h_rules hl ho hL e_shown h_groups2) | exact o_short h_rules (o_shsub h_rules hl ho hL e_shown) | exact o_short h_rules (mem_sets.mp (by assumption)) | decide | skip), rfl⟩) (sqeL _ _) fl_f) (blkOk_by (by rfl)) (fun _ _ _ _ _ => pg_name (i := 5) g.nd rfl (by first | exact Or.inl rfl | exact Or.inr rfl)) (fun _ _ => bd_name) (fun _ _ _ _ _ lot h_lot => tsv_one (tv_of (bz := false) (ev_fn F_law_is_open (hr.mono (by decide)) (av_cons (ev_nm (d := ((eT (eT eN)).f lot)) 5) av_nil) ⟨lot, rfl, (by first | rfl | exact o_few h_rules | exact o_few1 h_rules | exact h_rules.nd | exact h_rules.mem | exact o_eqlen hl | exact o_eqlen ho | exact o_short h_rules (o_sub6 e_open_so h_groups) | exact o_short h_rules (o_sub e_open_so h_groups3) | exact o_short h_rules (o_sub e_open_so h_groups4) | exact o_short h_rules (o_sub4 h_rules hl ho hL e_shown h_groups2) | exact o_short h_rules (o_shsub h_rules hl ho hL e_shown) | exact o_short h_rules (mem_sets.mp (by assumption)) | decide | skip), rfl⟩))) (fun _ _ _ _ _ lot h_lot q_lot => (ev_nm (d := ((eT (eT eN)).f lot)) 5)))) g) fun open_so e_open_so => ?_
    refine st_setJ (i := 1) (k := 6) (m := m2 + 20) (c := 1) (d_soft (G := fun z_given => (eQ z_given (eS z_given eN) (eS z_given (eS z_given eN)))) (v := rules) (x := false) (y := true) (dt_eq (c1 := 1) (c2 := 0) (d_take (n := (2 : Int)) F_law_take (hr.mono (by decide)) (fun mq => ev_int) (by decide)) (d_pure (E := eI) (v := (0 : Int)) fun mq => ev_int)) (fun mq => (t_soft F_law_soft (hr.mono (by decide)) (sfP (sfS true sfN) (sfS true (sfS true sfN))) (ev_nm (d := ((eP (eT eN) (eT (eT eN))).f rules)) 3))) (fun mq => (ev_nm (d := ((eP (eT eN) (eT (eT eN))).f rules)) 3))) g rfl (OneU.of rfl) (by omega) (fun d hd => ?_)
    obtain ⟨z_given, rfl⟩ := hd
    refine st_ifF (Tv.cast (tv_not (tv_of (bz := false) (t_same F_law_same (hr.mono (by decide)) (t_lst2 (ev_fn F_all_open (hr.mono (by decide)) (av_cons (ev_nm (d := ((eQ z_given (eS z_given eN) (eS z_given (eS z_given eN))).f rules)) 6) av_nil) ⟨z_given, rules, rfl, (by first | rfl | exact o_few h_rules | exact o_few1 h_rules | exact h_rules.nd | exact h_rules.mem | exact o_eqlen hl | exact o_eqlen ho | exact o_short h_rules (o_sub6 e_open_so h_groups) | exact o_short h_rules (o_sub e_open_so h_groups3) | exact o_short h_rules (o_sub e_open_so h_groups4) | exact o_short h_rules (o_sub4 h_rules hl ho hL e_shown h_groups2) | exact o_short h_rules (o_shsub h_rules hl ho hL e_shown) | exact o_short h_rules (mem_sets.mp (by assumption)) | decide | skip), rfl⟩) (LcB.ev (b_map (own := [("lot", 5)]) (gt := gName 5) (eT (eT eN)) eB (law_sets rules.2) (fun lot2 => (is_open rules lot2)) (fun lot2 => [.no, .urn (m2 + 20 + 1), .val (.int j), .val ((eP (eT eN) (eT (eT eN))).f rules), .val ((eL (eT (eT eN))).f open_so), .val ((eT (eT eN)).f lot2), .val ((eQ z_given (eS z_given eN) (eS z_given (eS z_given eN))).f rules), .no, .no, .no, .no, .no, .no, .no, .no, .no, .no, .no, .no, .no, .no, .no, .no, .no, .no, .no]) g (ti_seq (eT (eT eN)) (law_sets rules.2) (ev_fn F_law_sets (hr.mono (by decide)) (av_cons (ev_ix (d := ((eT (eT eN)).f rules.2)) (ev_nm (d := ((eP (eT eN) (eT (eT eN))).f rules)) 3) ev_int (sqT _) rfl) av_nil) ⟨rules.2, rfl, (by first | rfl | exact o_few h_rules | exact o_few1 h_rules | exact h_rules.nd | exact h_rules.mem | exact o_eqlen hl | exact o_eqlen ho | exact o_short h_rules (o_sub6 e_open_so h_groups) | exact o_short h_rules (o_sub e_open_so h_groups3) | exact o_short h_rules (o_sub e_open_so h_groups4) | exact o_short h_rules (o_sub4 h_rules hl ho hL e_shown h_groups2) | exact o_short h_rules (o_shsub h_rules hl ho hL e_shown) | exact o_short h_rules (mem_sets.mp (by assumption)) | decide | skip), rfl⟩) (sqeL _ _) fl_f) (blkOk_by (by rfl)) (fun _ _ _ _ _ => pg_name (i := 5) g.nd rfl (by first | exact Or.inl rfl | exact Or.inr rfl)) (fun _ _ => bd_name) (fun _ _ _ _ _ lot2 h_lot2 => (ev_fn F_is_open (hr.mono (by decide)) (av_cons (ev_nm (d := ((eP (eT eN) (eT (eT eN))).f rules)) 3) (av_cons (ev_nm (d := ((eT (eT eN)).f lot2)) 5) av_nil)) ⟨true, rules, lot2, rfl, rfl⟩))))) (t_lst2 (ev_nm (d := ((eL (eT (eT eN))).f open_so)) 4) (LcB.ev (b_map (own := [("lot", 5)]) (gt := gName 5) (eT (eT eN)) eB (law_sets rules.2) (fun lot3 => (decide (lot3 ∈ open_so))) (fun lot3 => [.no, .urn (m2 + 20 + 1), .val (.int j), .val ((eP (eT eN) (eT (eT eN))).f rules), .val ((eL (eT (eT eN))).f open_so), .val ((eT (eT eN)).f lot3), .val ((eQ z_given (eS z_given eN) (eS z_given (eS z_given eN))).f rules), .no, .no, .no, .no, .no, .no, .no, .no, .no, .no, .no, .no, .no, .no, .no, .no, .no, .no, .no]) g (ti_seq (eT (eT eN)) (law_sets rules.2) (ev_fn F_law_sets (hr.mono (by decide)) (av_cons (ev_ix (d := ((eT (eT eN)).f rules.2)) (ev_nm (d := ((eP (eT eN) (eT (eT eN))).f rules)) 3) ev_int (sqT _) rfl) av_nil) ⟨rules.2, rfl, (by first | rfl | exact o_few h_rules | exact o_few1 h_rules | exact h_rules.nd | exact h_rules.mem | exact o_eqlen hl | exact o_eqlen ho | exact o_short h_rules (o_sub6 e_open_so h_groups) | exact o_short h_rules (o_sub e_open_so h_groups3) | exact o_short h_rules (o_sub e_open_so h_groups4) | exact o_short h_rules (o_sub4 h_rules hl ho hL e_shown h_groups2) | exact o_short h_rules (o_shsub h_rules hl ho hL e_shown) | exact o_short h_rules (mem_sets.mp (by assumption)) | decide | skip), rfl⟩) (sqeL _ _) fl_f) (blkOk_by (by rfl)) (fun _ _ _ _ _ => pg_name (i := 5) g.nd rfl (by first | exact Or.inl rfl | exact Or.inr rfl)) (fun _ _ => bd_name) (fun _ _ _ _ _ lot3 h_lot3 => (ev_c (t_in (eT (eT eN)) g (ev_nm (d := ((eT (eT eN)).f lot3)) 5) (ev_nm (d := ((eL (eT (eT eN))).f open_so)) 4) (sqeL _ _))))))) (by exact o_same1 h_rules e_open_so)))) (by first | rfl | exact o_few h_rules | exact o_few1 h_rules | exact h_rules.nd | exact h_rules.mem | exact o_eqlen hl | exact o_eqlen ho | exact o_short h_rules (o_sub6 e_open_so h_groups) | exact o_short h_rules (o_sub e_open_so h_groups3) | exact o_short h_rules (o_sub e_open_so h_groups4) | exact o_short h_rules (o_sub4 h_rules hl ho hL e_shown h_groups2) | exact o_short h_rules (o_shsub h_rules hl ho hL e_shown) | exact o_short h_rules (mem_sets.mp (by assumption)) | decide | skip)) ?_
    refine st_wk (Γ' := [.no, .urn (m2 + 20 + 1), .val (.int j), .val ((eP (eT eN) (eT (eT eN))).f rules), .val ((eL (eT (eT eN))).f open_so), .no, .val ((eQ z_given (eS z_given eN) (eS z_given (eS z_given eN))).f rules), .no, .no, .no, .no, .no, .no, .no, .no, .no, .no, .no, .no, .no, .no, .no, .no, .no, .no, .no]) (by repeat (first | exact Wk.nil | apply Wk.same | apply Wk.drop)) ?_
    refine st_fold g [7] (cutT open_so none (some (6 : Int))) (eT (eT eN)).f (fun (_ : Unit) (_ : Unit) => [.no, .urn (m2 + 20 + 1), .val (.int j), .val ((eP (eT eN) (eT (eT eN))).f rules), .val ((eL (eT (eT eN))).f open_so), .no, .val ((eQ z_given (eS z_given eN) (eS z_given (eS z_given eN))).f rules), .no, .no, .no, .no, .no, .no, .no, .no, .no, .no, .no, .no, .no, .no, .no, .no, .no, .no, .no]) (fun _ _ => ()) () () (ti_seq (eT (eT eN)) (cutT open_so none (some (6 : Int))) (t_sliceL (eT (eT eN)) open_so (ev_nm (d := ((eL (eT (eT eN))).f open_so)) 4) pv_none (pv_some ev_int)) (sqeL _ _) fl_f) (pg_name (i := 7) g.nd rfl (by first | exact Or.inl rfl | exact Or.inr rfl)) rfl (fun pre_groups groups post_groups j_ u_ hx_groups hu_ => ⟨_, bd_name, ?_⟩) fun j_ u_ hu_ => ?_
    · have h_groups : groups ∈ (cutT open_so none (some (6 : Int))) := by rw [hx_groups]; simp
      refine st_letD (i := 8) (groups.map fun group => (group.filter fun name => (decide (((groups.filter fun far => ((!decide (far = group)) && (decide (name ∈ far)))).map fun far => (1 : Int)) = ([] : List Int))))) (fun v => ((eT (eT eN)).f v)) (s_set (t_tuple (eT eN) (groups.map fun group => (group.filter fun name => (decide (((groups.filter fun far => ((!decide (far = group)) && (decide (name ∈ far)))).map fun far => (1 : Int)) = ([] : List Int))))) m_tuple (LcB.ev (b_map (own := [("group", 11)]) (gt := gName 11) (eT eN) (eT eN) groups (fun group => (group.filter fun name => (decide (((groups.filter fun far => ((!decide (far = group)) && (decide (name ∈ far)))).map fun far => (1 : Int)) = ([] : List Int))))) (fun group => [.no, .urn (m2 + 20 + 1), .val (.int j), .val ((eP (eT eN) (eT (eT eN))).f rules), .val ((eL (eT (eT eN))).f open_so), .no, .val ((eQ z_given (eS z_given eN) (eS z_given (eS z_given eN))).f rules), .val ((eT (eT eN)).f groups), .no, .no, .no, .val ((eT eN).f group), .no, .no, .no, .no, .no, .no, .no, .no, .no, .no, .no, .no, .no, .no]) g (ti_seq (eT eN) groups (ev_nm (d := ((eT (eT eN)).f groups)) 7) (sqeT _ _) fl_f) (blkOk_by (by rfl)) (fun _ _ _ _ _ => pg_name (i := 11) g.nd rfl (by first | exact Or.inl rfl | exact Or.inr rfl)) (fun _ _ => bd_name) (fun _ _ _ _ _ group h_group => (t_tuple eN (group.filter fun name => (decide (((groups.filter fun far => ((!decide (far = group)) && (decide (name ∈ far)))).map fun far => (1 : Int)) = ([] : List Int)))) m_tuple (LcB.ev (b_fil (own := [("name", 9)]) (gt := gName 9) eN group (fun name => (decide (((groups.filter fun far => ((!decide (far = group)) && (decide (name ∈ far)))).map fun far => (1 : Int)) = ([] : List Int)))) (fun name => [.no, .urn (m2 + 20 + 1), .val (.int j), .val ((eP (eT eN) (eT (eT eN))).f rules), .val ((eL (eT (eT eN))).f open_so), .no, .val ((eQ z_given (eS z_given eN) (eS z_given (eS z_given eN))).f rules), .val ((eT (eT eN)).f groups), .no, .val (eN.f name), .no, .val ((eT eN).f group), .no, .no, .no, .no, .no, .no, .no, .no, .no, .no, .no, .no, .no, .no]) g (ti_seq eN group (ev_nm (d := ((eT eN).f group)) 11) (sqeT _ _) fl_f) (blkOk_by (by rfl)) (fun _ _ _ _ _ => pg_name (i := 9) g.nd rfl (by first | exact Or.inl rfl | exact Or.inr rfl)) (fun _ _ => bd_name) (fun _ _ _ _ _ name h_name => tsv_one (tv_c (bz := false) (t_eq (eL eI) g (LcB.ev (b_lc (own := [("far", 10)]) (gt := gName 10) (eT eN) eI groups (fun far => ((!decide (far = group)) && (decide (name ∈ far)))) (fun far => (1 : Int)) (fun far => [.no, .urn (m2 + 20 + 1), .val (.int j), .val ((eP (eT eN) (eT (eT eN))).f rules), .val ((eL (eT (eT eN))).f open_so), .no, .val ((eQ z_given (eS z_given eN) (eS z_given (eS z_given eN))).f rules), .val ((eT (eT eN)).f groups), .no, .val (eN.f name), .val ((eT eN).f far), .val ((eT eN).f group), .no, .no, .no, .no, .no, .no, .no, .no, .no, .no, .no, .no, .no, .no]) g (ti_seq (eT eN) groups (ev_nm (d := ((eT (eT eN)).f groups)) 7) (sqeT _ _) fl_f) (blkOk_by (by rfl)) (fun _ _ _ _ _ => pg_name (i := 10) g.nd rfl (by first | exact Or.inl rfl | exact Or.inr rfl)) (fun _ _ => bd_name) (fun _ _ _ _ _ far h_far => tsv_one (tv_pw (tw_and (tv_c (bz := false) (t_ne (eT eN) g (ev_nm (d := ((eT eN).f far)) 10) (ev_nm (d := ((eT eN).f group)) 11))) (fun hc => (tw_and1 (tv_c (bz := false) (t_in eN g (ev_nm (d := (eN.f name)) 9) (ev_nm (d := ((eT eN).f far)) 10) (sqeT _ _)))))))) (fun _ _ _ _ _ far h_far q_far => ev_int))) (t_lstD eI [] av_nil (Nat.zero_le _))))) (fun _ _ _ _ _ name h_name q_name => (ev_nm (d := (eN.f name)) 9)))) (sqeL _ _))))) (sqeL _ _)) g) fun own e_own => ?_
      refine st_ifF (Tv.cast (tv_not (tv_of (bz := false) (t_same F_law_same (hr.mono (by decide)) (t_lst2 (ev_fn F_own_kinds (hr.mono (by decide)) (av_cons (ev_nm (d := ((eT (eT eN)).f groups)) 7) av_nil) ⟨true, groups, rfl, rfl⟩) (ev_fn F_counted (hr.mono (by decide)) (av_cons (ev_nm (d := ((eP (eT eN) (eT (eT eN))).f rules)) 3) (av_cons (ev_nm (d := ((eT (eT eN)).f groups)) 7) av_nil)) ⟨true, rules, groups, rfl, rfl⟩)) (t_lst2 (ev_nm (d := ((eT (eT eN)).f own)) 8) (t_tuple eI (rules.1.map fun name2 => (max (1 : Int) (((groups.filter fun group3 => (decide (name2 ∈ group3))).map fun group3 => (1 : Int)).length : Int))) m_tuple (LcB.ev (b_map (own := [("name", 9)]) (gt := gName 9) eN eI rules.1 (fun name2 => (max (1 : Int) (((groups.filter fun group3 => (decide (name2 ∈ group3))).map fun group3 => (1 : Int)).length : Int))) (fun name2 => [.no, .urn (m2 + 20 + 1), .val (.int j), .val ((eP (eT eN) (eT (eT eN))).f rules), .val ((eL (eT (eT eN))).f open_so), .no, .val ((eQ z_given (eS z_given eN) (eS z_given (eS z_given eN))).f rules), .val ((eT (eT eN)).f groups), .val ((eT (eT eN)).f own), .val (eN.f name2), .no, .no, .no, .no, .no, .no, .no, .no, .no, .no, .no, .no, .no, .no, .no, .no]) g (ti_seq eN rules.1 (ev_ix (d := ((eT eN).f rules.1)) (ev_nm (d := ((eP (eT eN) (eT (eT eN))).f rules)) 3) ev_int (sqT _) rfl) (sqeT _ _) fl_f) (blkOk_by (by rfl)) (fun _ _ _ _ _ => pg_name (i := 9) g.nd rfl (by first | exact Or.inl rfl | exact Or.inr rfl)) (fun _ _ => bd_name) (fun _ _ _ _ _ name2 h_name2 => (t_max2 g m_max ev_int (t_len eI ((groups.filter fun group3 => (decide (name2 ∈ group3))).map fun group3 => (1 : Int)) m_len (LcB.ev (b_lc (own := [("group", 11)]) (gt := gName 11) (eT eN) eI groups (fun group3 => (decide (name2 ∈ group3))) (fun group3 => (1 : Int)) (fun group3 => [.no, .urn (m2 + 20 + 1), .val (.int j), .val ((eP (eT eN) (eT (eT eN))).f rules), .val ((eL (eT (eT eN))).f open_so), .no, .val ((eQ z_given (eS z_given eN) (eS z_given (eS z_given eN))).f rules), .val ((eT (eT eN)).f groups), .val ((eT (eT eN)).f own), .val (eN.f name2), .no, .val ((eT eN).f group3), .no, .no, .no, .no, .no, .no, .no, .no, .no, .no, .no, .no, .no, .no]) g (ti_seq (eT eN) groups (ev_nm (d := ((eT (eT eN)).f groups)) 7) (sqeT _ _) fl_f) (blkOk_by (by rfl)) (fun _ _ _ _ _ => pg_name (i := 11) g.nd rfl (by first | exact Or.inl rfl | exact Or.inr rfl)) (fun _ _ => bd_name) (fun _ _ _ _ _ group3 h_group3 => tsv_one (tv_c (bz := false) (t_in eN g (ev_nm (d := (eN.f name2)) 9) (ev_nm (d := ((eT eN).f group3)) 11) (sqeT _ _)))) (fun _ _ _ _ _ group3 h_group3 q_group3 => ev_int))) (sqeL _ _)))))) (sqeL _ _))) (by exact o_same2 (h_rules.nodup.sublist (o_sub6 e_open_so h_groups)) e_own)))) (by first | rfl | exact o_few h_rules | exact o_few1 h_rules | exact h_rules.nd | exact h_rules.mem | exact o_eqlen hl | exact o_eqlen ho | exact o_short h_rules (o_sub6 e_open_so h_groups) | exact o_short h_rules (o_sub e_open_so h_groups3) | exact o_short h_rules (o_sub e_open_so h_groups4) | exact o_short h_rules (o_sub4 h_rules hl ho hL e_shown h_groups2) | exact o_short h_rules (o_shsub h_rules hl ho hL e_shown) | exact o_short h_rules (mem_sets.mp (by assumption)) | decide | skip)) ?_
      exact st_end (Γ' := [.no, .urn (m2 + 20 + 1), .val (.int j), .val ((eP (eT eN) (eT (eT eN))).f rules), .val ((eL (eT (eT eN))).f open_so), .no, .val ((eQ z_given (eS z_given eN) (eS z_given (eS z_given eN))).f rules), .no, .no, .no, .no, .no, .no, .no, .no, .no, .no, .no, .no, .no, .no, .no, .no, .no, .no, .no]) (by repeat (first | exact Wk.nil | apply Wk.same | apply Wk.drop)) ⟨(), rfl⟩
    refine st_parC (i := 1) (k := 5) (l := 12) (m := m2 + 20 + 1) (c1 := 16) (c2 := 16) (E := (eT eI)) (F := (eT eI)) (Q := (fun v : List Int => (v.length : Int) = (rules.1.length : Int) ∧ ∀ x ∈ v, 0 ≤ x ∧ x < (4 : Int))) (Q2 := (fun v : List Int => (v.length : Int) = (rules.1.length : Int) ∧ ∀ x ∈ v, 0 ≤ x ∧ x < (5 : Int))) (d_numbers (many := (rules.1.length : Int)) (below := (4 : Int)) F_law_numbers (hr.mono (by decide)) (fun mq => (t_len eN rules.1 m_len (ev_ix (d := ((eT eN).f rules.1)) (ev_nm (d := ((eP (eT eN) (eT (eT eN))).f rules)) 3) ev_int (sqT _) rfl) (sqeT _ _))) (fun mq => ev_int) (by have q1 := h_rules.len; have q2 := h_rules.few; refine ⟨⟨?_, ?_⟩, ?_, ?_⟩ <;> omega)) (d_numbers (many := (rules.1.length : Int)) (below := (5 : Int)) F_law_numbers (hr.mono (by decide)) (fun mq => (t_len eN rules.1 m_len (ev_ix (d := ((eT eN).f rules.1)) (ev_nm (d := ((eP (eT eN) (eT (eT eN))).f rules)) 3) ev_int (sqT _) rfl) (sqeT _ _))) (fun mq => ev_int) (by have q1 := h_rules.len; have q2 := h_rules.few; refine ⟨⟨?_, ?_⟩, ?_, ?_⟩ <;> omega)) g (fun lot4 other h_lot4 h_other => ?_) (by omega)
    obtain ⟨l, hl, l0⟩ := drawn h_rules.nd h_lot4
    obtain ⟨o, ho, o0⟩ := drawn h_rules.nd h_other
    refine st_setD (i := 1) (l := 13) (m := m2 + 20 + 1 + (16 + 16)) (c := 17) (E := (eT eI)) (Q := (fun v : (List Int) => (fun x : (List Int) => x = (law_loads rules lot4)) v ∨ (fun v : List Int => (v.length : Int) = (rules.2.length : Int) ∧ ∀ x ∈ v, 0 ≤ x ∧ x < (9 : Int)) v)) (d_if (c1 := 1) (c2 := 16) (dt_eq (c1 := 1) (c2 := 0) (d_take (n := (2 : Int)) F_law_take (hr.mono (by decide)) (fun mq => ev_int) (by decide)) (d_pure (E := eI) (v := (0 : Int)) fun mq => ev_int)) (d_mono (c1 := 0) (d_pure (E := (eT eI)) (v := (law_loads rules lot4)) fun mq => (ev_fn F_law_loads (hr.mono (by decide)) (av_cons (ev_nm (d := ((eP (eT eN) (eT (eT eN))).f rules)) 3) (av_cons (ev_nm (d := ((eT eI).f lot4)) 5) av_nil)) ⟨rules, lot4, rfl, rfl⟩)) (by decide) fun _ q => q) (d_mono (c1 := 16) (d_numbers (many := (rules.2.length : Int)) (below := (9 : Int)) F_law_numbers (hr.mono (by decide)) (fun mq => (t_len (eT eN) rules.2 m_len (ev_ix (d := ((eT (eT eN)).f rules.2)) (ev_nm (d := ((eP (eT eN) (eT (eT eN))).f rules)) 3) ev_int (sqT _) rfl) (sqeT _ _))) (fun mq => ev_int) (by have q1 := h_rules.len; have q2 := h_rules.few; refine ⟨⟨?_, ?_⟩, ?_, ?_⟩ <;> omega)) (by decide) fun _ q => q)) g (fun limits h_limits => ?_) (by omega)
    obtain ⟨L, hL, L0⟩ := drawnG h_rules hl l0 h_limits
    refine st_letD (i := 14) (law_full rules limits lot4) (fun v => ((eT (eT eN)).f v)) (s_set (ev_fn F_law_full (hr.mono (by decide)) (av_cons (ev_nm (d := ((eP (eT eN) (eT (eT eN))).f rules)) 3) (av_cons (ev_nm (d := ((eT eI).f limits)) 13) (av_cons (ev_nm (d := ((eT eI).f lot4)) 5) av_nil))) ⟨rules, limits, lot4, rfl, rfl⟩) g) fun full e_full => ?_
    refine st_letD (i := 15) (((rules.1.zip (lot4.zip other)).filter fun z => decide (z.2.1 < z.2.2)).map fun z => z.1) (fun v => ((eL eN).f v)) (s_setLc (b_lc (own := [("name", 9), ("near", 16), ("far", 10)]) (gt := gTup K 3 (gCons (gName 9) (gCons (gName 16) (gCons (gName 10) gNil)))) (eP3 eN eI eI) eN (rules.1.zip (lot4.zip other)) (fun z => decide (z.2.1 < z.2.2)) (fun z => z.1) (fun z => [.no, .urn (m2 + 20 + 1 + (16 + 16) + 17), .val (.int j), .val ((eP (eT eN) (eT (eT eN))).f rules), .val ((eL (eT (eT eN))).f open_so), .val ((eT eI).f lot4), .val ((eQ z_given (eS z_given eN) (eS z_given (eS z_given eN))).f rules), .no, .no, .val (eN.f z.1), .val (eI.f z.2.2), .no, .val ((eT eI).f other), .val ((eT eI).f limits), .val ((eT (eT eN)).f full), .no, .val (eI.f z.2.1), .no, .no, .no, .no, .no, .no, .no, .no, .no]) g (ti_zip3 eN eI eI rules.1 lot4 other m_zip (ev_ix (d := ((eT eN).f rules.1)) (ev_nm (d := ((eP (eT eN) (eT (eT eN))).f rules)) 3) ev_int (sqT _) rfl) (ev_nm (d := ((eT eI).f lot4)) 5) (ev_nm (d := ((eT eI).f other)) 12) (sqeT _ _) (sqeT _ _) (sqeT _ _) fl_f fl_f fl_f) (blkOk_by (by rfl)) (fun _ _ _ _ _ => pg_tup g.calm (pgs_cons (pg_name (i := 9) g.nd rfl (by first | exact Or.inl rfl | exact Or.inr rfl)) (pgs_cons (pg_name (i := 16) g.nd rfl (by first | exact Or.inl rfl | exact Or.inr rfl)) (pgs_cons (pg_name (i := 10) g.nd rfl (by first | exact Or.inl rfl | exact Or.inr rfl)) pgs_nil)))) (fun _ _ => bd_tup (bds_cons bd_name (bds_cons bd_name (bds_cons bd_name bds_nil)))) (fun _ _ _ _ _ z h_z => tsv_one (tv_c (bz := false) (cv_gt (ev_nm (d := (eI.f z.2.2)) 10) (ev_nm (d := (eI.f z.2.1)) 16)))) (fun _ _ _ _ _ z h_z q_z => (ev_nm (d := (eN.f z.1)) 9))) g) fun more e_more => ?_
    refine st_letD (i := 17) (decide (((more.filter fun name3 => (decide (((full.filter fun group4 => (decide (name3 ∈ group4))).map fun group4 => (1 : Int)) = ([] : List Int)))).map fun name3 => (1 : Int)) = ([] : List Int))) (fun v => (eB.f v)) (s_set (ev_c (t_eq (eL eI) g (LcB.ev (b_lc (own := [("name", 9)]) (gt := gName 9) eN eI more (fun name3 => (decide (((full.filter fun group4 => (decide (name3 ∈ group4))).map fun group4 => (1 : Int)) = ([] : List Int)))) (fun name3 => (1 : Int)) (fun name3 => [.no, .urn (m2 + 20 + 1 + (16 + 16) + 17), .val (.int j), .val ((eP (eT eN) (eT (eT eN))).f rules), .val ((eL (eT (eT eN))).f open_so), .val ((eT eI).f lot4), .val ((eQ z_given (eS z_given eN) (eS z_given (eS z_given eN))).f rules), .no, .no, .val (eN.f name3), .no, .no, .val ((eT eI).f other), .val ((eT eI).f limits), .val ((eT (eT eN)).f full), .val ((eL eN).f more), .no, .no, .no, .no, .no, .no, .no, .no, .no, .no]) g (ti_seq eN more (ev_nm (d := ((eL eN).f more)) 15) (sqeL _ _) fl_f) (blkOk_by (by rfl)) (fun _ _ _ _ _ => pg_name (i := 9) g.nd rfl (by first | exact Or.inl rfl | exact Or.inr rfl)) (fun _ _ => bd_name) (fun _ _ _ _ _ name3 h_name3 => tsv_one (tv_c (bz := false) (t_eq (eL eI) g (LcB.ev (b_lc (own := [("group", 11)]) (gt := gName 11) (eT eN) eI full (fun group4 => (decide (name3 ∈ group4))) (fun group4 => (1 : Int)) (fun group4 => [.no, .urn (m2 + 20 + 1 + (16 + 16) + 17), .val (.int j), .val ((eP (eT eN) (eT (eT eN))).f rules), .val ((eL (eT (eT eN))).f open_so), .val ((eT eI).f lot4), .val ((eQ z_given (eS z_given eN) (eS z_given (eS z_given eN))).f rules), .no, .no, .val (eN.f name3), .no, .val ((eT eN).f group4), .val ((eT eI).f other), .val ((eT eI).f limits), .val ((eT (eT eN)).f full), .val ((eL eN).f more), .no, .no, .no, .no, .no, .no, .no, .no, .no, .no]) g (ti_seq (eT eN) full (ev_nm (d := ((eT (eT eN)).f full)) 14) (sqeT _ _) fl_f) (blkOk_by (by rfl)) (fun _ _ _ _ _ => pg_name (i := 11) g.nd rfl (by first | exact Or.inl rfl | exact Or.inr rfl)) (fun _ _ => bd_name) (fun _ _ _ _ _ group4 h_group4 => tsv_one (tv_c (bz := false) (t_in eN g (ev_nm (d := (eN.f name3)) 9) (ev_nm (d := ((eT eN).f group4)) 11) (sqeT _ _)))) (fun _ _ _ _ _ group4 h_group4 q_group4 => ev_int))) (t_lstD eI [] av_nil (Nat.zero_le _))))) (fun _ _ _ _ _ name3 h_name3 q_name3 => ev_int))) (t_lstD eI [] av_nil (Nat.zero_le _)))) g) fun good e_good => ?_
    refine st_letD (i := 18) (full_cover rules limits lot4 other) (fun v => ((eO (eT (eT eN)) (fun _ => nofun)).f v)) (s_set (ev_fn F_full_cover (hr.mono (by decide)) (av_cons (ev_nm (d := ((eP (eT eN) (eT (eT eN))).f rules)) 3) (av_cons (ev_nm (d := ((eT eI).f limits)) 13) (av_cons (ev_nm (d := ((eT eI).f lot4)) 5) (av_cons (ev_nm (d := ((eT eI).f other)) 12) av_nil)))) ⟨true, rules, limits, lot4, other, rfl, rfl⟩) g) fun shown e_shown => ?_
    refine st_ifF (Tv.cast (tv_not (tv_of (bz := false) (t_same F_law_same (hr.mono (by decide)) (t_lst3 (ev_fn F_full_groups (hr.mono (by decide)) (av_cons (ev_nm (d := ((eP (eT eN) (eT (eT eN))).f rules)) 3) (av_cons (ev_nm (d := ((eT eI).f limits)) 13) (av_cons (ev_nm (d := ((eT eI).f lot4)) 5) av_nil))) ⟨true, rules, limits, lot4, rfl, (by first | rfl | exact o_few h_rules | exact o_few1 h_rules | exact h_rules.nd | exact h_rules.mem | exact o_eqlen hl | exact o_eqlen ho | exact o_short h_rules (o_sub6 e_open_so h_groups) | exact o_short h_rules (o_sub e_open_so h_groups3) | exact o_short h_rules (o_sub e_open_so h_groups4) | exact o_short h_rules (o_sub4 h_rules hl ho hL e_shown h_groups2) | exact o_short h_rules (o_shsub h_rules hl ho hL e_shown) | exact o_short h_rules (mem_sets.mp (by assumption)) | decide | skip), (by first | rfl | exact o_few h_rules | exact o_few1 h_rules | exact h_rules.nd | exact h_rules.mem | exact o_eqlen hl | exact o_eqlen ho | exact o_short h_rules (o_sub6 e_open_so h_groups) | exact o_short h_rules (o_sub e_open_so h_groups3) | exact o_short h_rules (o_sub e_open_so h_groups4) | exact o_short h_rules (o_sub4 h_rules hl ho hL e_shown h_groups2) | exact o_short h_rules (o_shsub h_rules hl ho hL e_shown) | exact o_short h_rules (mem_sets.mp (by assumption)) | decide | skip), (by first | rfl | exact o_few h_rules | exact o_few1 h_rules | exact h_rules.nd | exact h_rules.mem | exact o_eqlen hl | exact o_eqlen ho | exact o_short h_rules (o_sub6 e_open_so h_groups) | exact o_short h_rules (o_sub e_open_so h_groups3) | exact o_short h_rules (o_sub e_open_so h_groups4) | exact o_short h_rules (o_sub4 h_rules hl ho hL e_shown h_groups2) | exact o_short h_rules (o_shsub h_rules hl ho hL e_shown) | exact o_short h_rules (mem_sets.mp (by assumption)) | decide | skip), rfl⟩) (ev_fn F_loads (hr.mono (by decide)) (av_cons (ev_nm (d := ((eQ z_given (eS z_given eN) (eS z_given (eS z_given eN))).f rules)) 6) (av_cons (ev_nm (d := ((eT eI).f lot4)) 5) av_nil)) ⟨z_given, rules, lot4, rfl, (by first | rfl | exact o_few h_rules | exact o_few1 h_rules | exact h_rules.nd | exact h_rules.mem | exact o_eqlen hl | exact o_eqlen ho | exact o_short h_rules (o_sub6 e_open_so h_groups) | exact o_short h_rules (o_sub e_open_so h_groups3) | exact o_short h_rules (o_sub e_open_so h_groups4) | exact o_short h_rules (o_sub4 h_rules hl ho hL e_shown h_groups2) | exact o_short h_rules (o_shsub h_rules hl ho hL e_shown) | exact o_short h_rules (mem_sets.mp (by assumption)) | decide | skip), (by first | rfl | exact o_few h_rules | exact o_few1 h_rules | exact h_rules.nd | exact h_rules.mem | exact o_eqlen hl | exact o_eqlen ho | exact o_short h_rules (o_sub6 e_open_so h_groups) | exact o_short h_rules (o_sub e_open_so h_groups3) | exact o_short h_rules (o_sub e_open_so h_groups4) | exact o_short h_rules (o_sub4 h_rules hl ho hL e_shown h_groups2) | exact o_short h_rules (o_shsub h_rules hl ho hL e_shown) | exact o_short h_rules (mem_sets.mp (by assumption)) | decide | skip), (by first | rfl | exact o_few h_rules | exact o_few1 h_rules | exact h_rules.nd | exact h_rules.mem | exact o_eqlen hl | exact o_eqlen ho | exact o_short h_rules (o_sub6 e_open_so h_groups) | exact o_short h_rules (o_sub e_open_so h_groups3) | exact o_short h_rules (o_sub e_open_so h_groups4) | exact o_short h_rules (o_sub4 h_rules hl ho hL e_shown h_groups2) | exact o_short h_rules (o_shsub h_rules hl ho hL e_shown) | exact o_short h_rules (mem_sets.mp (by assumption)) | decide | skip), rfl⟩) (ev_c (t_isN (ev_nm (d := ((eO (eT (eT eN)) (fun _ => nofun)).f shown)) 18)))) (t_lst3 (ev_nm (d := ((eT (eT eN)).f full)) 14) (ev_fn F_law_loads (hr.mono (by decide)) (av_cons (ev_nm (d := ((eP (eT eN) (eT (eT eN))).f rules)) 3) (av_cons (ev_nm (d := ((eT eI).f lot4)) 5) av_nil)) ⟨rules, lot4, rfl, rfl⟩) (ev_not (ev_nm (d := (eB.f good)) 17))) (by exact o_same3 h_rules hl ho hL e_full e_more e_good e_shown)))) (by first | rfl | exact o_few h_rules | exact o_few1 h_rules | exact h_rules.nd | exact h_rules.mem | exact o_eqlen hl | exact o_eqlen ho | exact o_short h_rules (o_sub6 e_open_so h_groups) | exact o_short h_rules (o_sub e_open_so h_groups3) | exact o_short h_rules (o_sub e_open_so h_groups4) | exact o_short h_rules (o_sub4 h_rules hl ho hL e_shown h_groups2) | exact o_short h_rules (o_shsub h_rules hl ho hL e_shown) | exact o_short h_rules (mem_sets.mp (by assumption)) | decide | skip)) ?_
    refine st_wk (Γ' := [.no, .urn (m2 + 20 + 1 + (16 + 16) + 17), .val (.int j), .val ((eP (eT eN) (eT (eT eN))).f rules), .val ((eL (eT (eT eN))).f open_so), .val ((eT eI).f lot4), .val ((eQ z_given (eS z_given eN) (eS z_given (eS z_given eN))).f rules), .no, .no, .no, .no, .no, .val ((eT eI).f other), .val ((eT eI).f limits), .val ((eT (eT eN)).f full), .val ((eL eN).f more), .no, .val (eB.f good), .val ((eO (eT (eT eN)) (fun _ => nofun)).f shown), .no, .no, .no, .no, .no, .no, .no]) (by repeat (first | exact Wk.nil | apply Wk.same | apply Wk.drop)) ?_
    refine st_fold g [7] ((law_sets rules.2) ++ (if good = true then ((shown.getD ([] : (List (List Str)))) :: ([] : List (List (List Str)))) else ([] : List (List (List Str))))) (eT (eT eN)).f (fun (_ : Unit) (_ : Unit) => [.no, .urn (m2 + 20 + 1 + (16 + 16) + 17), .val (.int j), .val ((eP (eT eN) (eT (eT eN))).f rules), .val ((eL (eT (eT eN))).f open_so), .val ((eT eI).f lot4), .val ((eQ z_given (eS z_given eN) (eS z_given (eS z_given eN))).f rules), .no, .no, .no, .no, .no, .val ((eT eI).f other), .val ((eT eI).f limits), .val ((eT (eT eN)).f full), .val ((eL eN).f more), .no, .val (eB.f good), .val ((eO (eT (eT eN)) (fun _ => nofun)).f shown), .no, .no, .no, .no, .no, .no, .no]) (fun _ _ => ()) () () (ti_seq (eT (eT eN)) ((law_sets rules.2) ++ (if good = true then ((shown.getD ([] : (List (List Str)))) :: ([] : List (List (List Str)))) else ([] : List (List (List Str))))) (t_catL (eT (eT eN)) (law_sets rules.2) (if good = true then ((shown.getD ([] : (List (List Str)))) :: ([] : List (List (List Str)))) else ([] : List (List (List Str)))) (ev_fn F_law_sets (hr.mono (by decide)) (av_cons (ev_ix (d := ((eT (eT eN)).f rules.2)) (ev_nm (d := ((eP (eT eN) (eT (eT eN))).f rules)) 3) ev_int (sqT _) rfl) av_nil) ⟨rules.2, rfl, (by first | rfl | exact o_few h_rules | exact o_few1 h_rules | exact h_rules.nd | exact h_rules.mem | exact o_eqlen hl | exact o_eqlen ho | exact o_short h_rules (o_sub6 e_open_so h_groups) | exact o_short h_rules (o_sub e_open_so h_groups3) | exact o_short h_rules (o_sub e_open_so h_groups4) | exact o_short h_rules (o_sub4 h_rules hl ho hL e_shown h_groups2) | exact o_short h_rules (o_shsub h_rules hl ho hL e_shown) | exact o_short h_rules (mem_sets.mp (by assumption)) | decide | skip), rfl⟩) (t_if (eL (eT (eT eN))) (tv_of (bz := false) (ev_nm (d := (eB.f good)) 17)) (fun hc3 => (t_lstD (eT (eT eN)) ((shown.getD ([] : (List (List Str)))) :: ([] : List (List (List Str)))) (t_avc (eT (eT eN)) (shown.getD ([] : (List (List Str)))) ([] : List (List (List Str))) (Ev.cast (ev_nm (d := ((eO (eT (eT eN)) (fun _ => nofun)).f shown)) 18) (eO_some (by exact shown_some h_rules hl ho hL e_full e_more e_good e_shown (by assumption)))) av_nil) (Nat.le_of_ble_eq_true rfl))) (fun hc3 => (t_lstD (eT (eT eN)) [] av_nil (Nat.zero_le _)))) (by first | exact o_cat4 h_rules | exact o_cat6 h_rules hl l0 e_far2)) (sqeL _ _) fl_f) (pg_name (i := 7) g.nd rfl (by first | exact Or.inl rfl | exact Or.inr rfl)) rfl (fun pre_groups2 groups2 post_groups2 j_ u_ hx_groups2 hu_ => ⟨_, bd_name, ?_⟩) fun j_ u_ hu_ => ?_
    · have h_groups2 : groups2 ∈ ((law_sets rules.2) ++ (if good = true then ((shown.getD ([] : (List (List Str)))) :: ([] : List (List (List Str)))) else ([] : List (List (List Str))))) := by rw [hx_groups2]; simp
      refine st_ifF (Tv.cast (tv_not (tv_of (bz := false) (t_same F_law_same (hr.mono (by decide)) (ev_fn F_is_full_cover (hr.mono (by decide)) (av_cons (ev_nm (d := ((eP (eT eN) (eT (eT eN))).f rules)) 3) (av_cons (ev_nm (d := ((eT eI).f limits)) 13) (av_cons (ev_nm (d := ((eT eI).f lot4)) 5) (av_cons (ev_nm (d := ((eT eI).f other)) 12) (av_cons (ev_nm (d := ((eT (eT eN)).f groups2)) 7) av_nil))))) ⟨true, rules, limits, lot4, other, groups2, rfl, rfl⟩) (ev_fn F_law_is_cover (hr.mono (by decide)) (av_cons (ev_nm (d := ((eP (eT eN) (eT (eT eN))).f rules)) 3) (av_cons (ev_nm (d := ((eT eI).f limits)) 13) (av_cons (ev_nm (d := ((eT eI).f lot4)) 5) (av_cons (ev_nm (d := ((eT eI).f other)) 12) (av_cons (ev_nm (d := ((eT (eT eN)).f groups2)) 7) av_nil))))) ⟨rules, limits, lot4, other, groups2, rfl, (by first | rfl | exact o_few h_rules | exact o_few1 h_rules | exact h_rules.nd | exact h_rules.mem | exact o_eqlen hl | exact o_eqlen ho | exact o_short h_rules (o_sub6 e_open_so h_groups) | exact o_short h_rules (o_sub e_open_so h_groups3) | exact o_short h_rules (o_sub e_open_so h_groups4) | exact o_short h_rules (o_sub4 h_rules hl ho hL e_shown h_groups2) | exact o_short h_rules (o_shsub h_rules hl ho hL e_shown) | exact o_short h_rules (mem_sets.mp (by assumption)) | decide | skip), rfl⟩) (by exact o_same4 h_rules hl ho hL (o_sub4 h_rules hl ho hL e_shown h_groups2))))) (by first | rfl | exact o_few h_rules | exact o_few1 h_rules | exact h_rules.nd | exact h_rules.mem | exact o_eqlen hl | exact o_eqlen ho | exact o_short h_rules (o_sub6 e_open_so h_groups) | exact o_short h_rules (o_sub e_open_so h_groups3) | exact o_short h_rules (o_sub e_open_so h_groups4) | exact o_short h_rules (o_sub4 h_rules hl ho hL e_shown h_groups2) | exact o_short h_rules (o_shsub h_rules hl ho hL e_shown) | exact o_short h_rules (mem_sets.mp (by assumption)) | decide | skip)) ?_
      exact st_end (Γ' := [.no, .urn (m2 + 20 + 1 + (16 + 16) + 17), .val (.int j), .val ((eP (eT eN) (eT (eT eN))).f rules), .val ((eL (eT (eT eN))).f open_so), .val ((eT eI).f lot4), .val ((eQ z_given (eS z_given eN) (eS z_given (eS z_given eN))).f rules), .no, .no, .no, .no, .no, .val ((eT eI).f other), .val ((eT eI).f limits), .val ((eT (eT eN)).f full), .val ((eL eN).f more), .no, .val (eB.f good), .val ((eO (eT (eT eN)) (fun _ => nofun)).f shown), .no, .no, .no, .no, .no, .no, .no]) (by repeat (first | exact Wk.nil | apply Wk.same | apply Wk.drop)) ⟨(), rfl⟩
    refine st_ifF (Tv.cast (tv_pw (tw_and (tv_of (bz := false) (ev_nm (d := (eB.f good)) 17)) (fun hc4 => (tw_and1 (tv_pw (tw_or (tv_not (tv_of (bz := false) (ev_fn F_law_is_cover (hr.mono (by decide)) (av_cons (ev_nm (d := ((eP (eT eN) (eT (eT eN))).f rules)) 3) (av_cons (ev_nm (d := ((eT eI).f limits)) 13) (av_cons (ev_nm (d := ((eT eI).f lot4)) 5) (av_cons (ev_nm (d := ((eT eI).f other)) 12) (av_cons (Ev.cast (ev_nm (d := ((eO (eT (eT eN)) (fun _ => nofun)).f shown)) 18) (eO_some (by exact shown_some h_rules hl ho hL e_full e_more e_good e_shown (by assumption)))) av_nil))))) ⟨rules, limits, lot4, other, (shown.getD ([] : (List (List Str)))), rfl, (by first | rfl | exact o_few h_rules | exact o_few1 h_rules | exact h_rules.nd | exact h_rules.mem | exact o_eqlen hl | exact o_eqlen ho | exact o_short h_rules (o_sub6 e_open_so h_groups) | exact o_short h_rules (o_sub e_open_so h_groups3) | exact o_short h_rules (o_sub e_open_so h_groups4) | exact o_short h_rules (o_sub4 h_rules hl ho hL e_shown h_groups2) | exact o_short h_rules (o_shsub h_rules hl ho hL e_shown) | exact o_short h_rules (mem_sets.mp (by assumption)) | decide | skip), rfl⟩))) (fun hc5 => (tw_or1 (tv_pw (tw_and (tv_of (bz := false) (ev_fn F_law_keeps (hr.mono (by decide)) (av_cons (ev_nm (d := ((eP (eT eN) (eT (eT eN))).f rules)) 3) (av_cons (ev_nm (d := ((eT eI).f limits)) 13) (av_cons (ev_nm (d := ((eT eI).f other)) 12) av_nil))) ⟨rules, limits, other, rfl, rfl⟩)) (fun hc6 => (tw_and1 (tv_c (bz := false) (cv_gt (t_sum g other m_sum (ev_nm (d := ((eT eI).f other)) 12) (sqeT _ _)) (ev_fn F_law_cover (hr.mono (by decide)) (av_cons (ev_nm (d := ((eP (eT eN) (eT (eT eN))).f rules)) 3) (av_cons (ev_nm (d := ((eT eI).f lot4)) 5) (av_cons (Ev.cast (ev_nm (d := ((eO (eT (eT eN)) (fun _ => nofun)).f shown)) 18) (eO_some (by exact shown_some h_rules hl ho hL e_full e_more e_good e_shown (by assumption)))) av_nil))) ⟨rules, lot4, (shown.getD ([] : (List (List Str)))), rfl, (by first | rfl | exact o_few h_rules | exact o_few1 h_rules | exact h_rules.nd | exact h_rules.mem | exact o_eqlen hl | exact o_eqlen ho | exact o_short h_rules (o_sub6 e_open_so h_groups) | exact o_short h_rules (o_sub e_open_so h_groups3) | exact o_short h_rules (o_sub e_open_so h_groups4) | exact o_short h_rules (o_sub4 h_rules hl ho hL e_shown h_groups2) | exact o_short h_rules (o_shsub h_rules hl ho hL e_shown) | exact o_short h_rules (mem_sets.mp (by assumption)) | decide | skip), rfl⟩))))))))))))))) (by exact o_check5 h_rules hl l0 ho o0 hL e_shown (shown_some h_rules hl ho hL e_full e_more e_good e_shown))) ?_
    refine st_letD (i := 19) (open_so.map fun groups3 => (law_cover rules lot4 groups3)) (fun v => ((eL eI).f v)) (s_setLc (b_map (own := [("groups", 7)]) (gt := gName 7) (eT (eT eN)) eI open_so (fun groups3 => (law_cover rules lot4 groups3)) (fun groups3 => [.no, .urn (m2 + 20 + 1 + (16 + 16) + 17), .val (.int j), .val ((eP (eT eN) (eT (eT eN))).f rules), .val ((eL (eT (eT eN))).f open_so), .val ((eT eI).f lot4), .val ((eQ z_given (eS z_given eN) (eS z_given (eS z_given eN))).f rules), .val ((eT (eT eN)).f groups3), .no, .no, .no, .no, .val ((eT eI).f other), .val ((eT eI).f limits), .val ((eT (eT eN)).f full), .val ((eL eN).f more), .no, .val (eB.f good), .val ((eO (eT (eT eN)) (fun _ => nofun)).f shown), .no, .no, .no, .no, .no, .no, .no]) g (ti_seq (eT (eT eN)) open_so (ev_nm (d := ((eL (eT (eT eN))).f open_so)) 4) (sqeL _ _) fl_f) (blkOk_by (by rfl)) (fun _ _ _ _ _ => pg_name (i := 7) g.nd rfl (by first | exact Or.inl rfl | exact Or.inr rfl)) (fun _ _ => bd_name) (fun _ _ _ _ _ groups3 h_groups3 => (ev_fn F_law_cover (hr.mono (by decide)) (av_cons (ev_nm (d := ((eP (eT eN) (eT (eT eN))).f rules)) 3) (av_cons (ev_nm (d := ((eT eI).f lot4)) 5) (av_cons (ev_nm (d := ((eT (eT eN)).f groups3)) 7) av_nil))) ⟨rules, lot4, groups3, rfl, (by first | rfl | exact o_few h_rules | exact o_few1 h_rules | exact h_rules.nd | exact h_rules.mem | exact o_eqlen hl | exact o_eqlen ho | exact o_short h_rules (o_sub6 e_open_so h_groups) | exact o_short h_rules (o_sub e_open_so h_groups3) | exact o_short h_rules (o_sub e_open_so h_groups4) | exact o_short h_rules (o_sub4 h_rules hl ho hL e_shown h_groups2) | exact o_short h_rules (o_shsub h_rules hl ho hL e_shown) | exact o_short h_rules (mem_sets.mp (by assumption)) | decide | skip), rfl⟩))) g) fun sums e_sums => ?_
    refine st_ifF (Tv.cast (tv_not (tv_of (bz := false) (t_same F_law_same (hr.mono (by decide)) (t_lst2 (ev_fn F_greatest_beside (hr.mono (by decide)) (av_cons (ev_nm (d := ((eP (eT eN) (eT (eT eN))).f rules)) 3) (av_cons (ev_nm (d := ((eT eI).f lot4)) 5) av_nil)) ⟨true, rules, lot4, rfl, (by first | rfl | exact o_few h_rules | exact o_few1 h_rules | exact h_rules.nd | exact h_rules.mem | exact o_eqlen hl | exact o_eqlen ho | exact o_short h_rules (o_sub6 e_open_so h_groups) | exact o_short h_rules (o_sub e_open_so h_groups3) | exact o_short h_rules (o_sub e_open_so h_groups4) | exact o_short h_rules (o_sub4 h_rules hl ho hL e_shown h_groups2) | exact o_short h_rules (o_shsub h_rules hl ho hL e_shown) | exact o_short h_rules (mem_sets.mp (by assumption)) | decide | skip), rfl⟩) (LcB.ev (b_map (own := [("groups", 7)]) (gt := gName 7) (eT (eT eN)) eI open_so (fun groups4 => (cover_sum rules lot4 groups4)) (fun groups4 => [.no, .urn (m2 + 20 + 1 + (16 + 16) + 17), .val (.int j), .val ((eP (eT eN) (eT (eT eN))).f rules), .val ((eL (eT (eT eN))).f open_so), .val ((eT eI).f lot4), .val ((eQ z_given (eS z_given eN) (eS z_given (eS z_given eN))).f rules), .val ((eT (eT eN)).f groups4), .no, .no, .no, .no, .val ((eT eI).f other), .val ((eT eI).f limits), .val ((eT (eT eN)).f full), .val ((eL eN).f more), .no, .val (eB.f good), .val ((eO (eT (eT eN)) (fun _ => nofun)).f shown), .val ((eL eI).f sums), .no, .no, .no, .no, .no, .no]) g (ti_seq (eT (eT eN)) open_so (ev_nm (d := ((eL (eT (eT eN))).f open_so)) 4) (sqeL _ _) fl_f) (blkOk_by (by rfl)) (fun _ _ _ _ _ => pg_name (i := 7) g.nd rfl (by first | exact Or.inl rfl | exact Or.inr rfl)) (fun _ _ => bd_name) (fun _ _ _ _ _ groups4 h_groups4 => (ev_fn F_cover_sum (hr.mono (by decide)) (av_cons (ev_nm (d := ((eP (eT eN) (eT (eT eN))).f rules)) 3) (av_cons (ev_nm (d := ((eT eI).f lot4)) 5) (av_cons (ev_nm (d := ((eT (eT eN)).f groups4)) 7) av_nil))) ⟨true, rules, lot4, groups4, rfl, (by first | rfl | exact o_few h_rules | exact o_few1 h_rules | exact h_rules.nd | exact h_rules.mem | exact o_eqlen hl | exact o_eqlen ho | exact o_short h_rules (o_sub6 e_open_so h_groups) | exact o_short h_rules (o_sub e_open_so h_groups3) | exact o_short h_rules (o_sub e_open_so h_groups4) | exact o_short h_rules (o_sub4 h_rules hl ho hL e_shown h_groups2) | exact o_short h_rules (o_shsub h_rules hl ho hL e_shown) | exact o_short h_rules (mem_sets.mp (by assumption)) | decide | skip), rfl⟩))))) (t_lst2 (t_max oI (0 : Int) g sums m_max (ev_nm (d := ((eL eI).f sums)) 19) (sqeL _ _) (by exact o_ne e_open_so e_sums)) (ev_nm (d := ((eL eI).f sums)) 19)) (by exact o_same5 h_rules hl e_open_so e_sums)))) (by first | rfl | exact o_few h_rules | exact o_few1 h_rules | exact h_rules.nd | exact h_rules.mem | exact o_eqlen hl | exact o_eqlen ho | exact o_short h_rules (o_sub6 e_open_so h_groups) | exact o_short h_rules (o_sub e_open_so h_groups3) | exact o_short h_rules (o_sub e_open_so h_groups4) | exact o_short h_rules (o_sub4 h_rules hl ho hL e_shown h_groups2) | exact o_short h_rules (o_shsub h_rules hl ho hL e_shown) | exact o_short h_rules (mem_sets.mp (by assumption)) | decide | skip)) ?_
    refine st_tup2 (i := 20) (j := 10) (eT eI) (eT eI) (beside_paper rules lot4) (ev_fn F_beside_paper (hr.mono (by decide)) (av_cons (ev_nm (d := ((eP (eT eN) (eT (eT eN))).f rules)) 3) (av_cons (ev_nm (d := ((eT eI).f lot4)) 5) av_nil)) ⟨true, rules, lot4, rfl, (by first | rfl | exact o_few h_rules | exact o_few1 h_rules | exact h_rules.nd | exact h_rules.mem | exact o_eqlen hl | exact o_eqlen ho | exact o_short h_rules (o_sub6 e_open_so h_groups) | exact o_short h_rules (o_sub e_open_so h_groups3) | exact o_short h_rules (o_sub e_open_so h_groups4) | exact o_short h_rules (o_sub4 h_rules hl ho hL e_shown h_groups2) | exact o_short h_rules (o_shsub h_rules hl ho hL e_shown) | exact o_short h_rules (mem_sets.mp (by assumption)) | decide | skip), (by first | rfl | exact o_few h_rules | exact o_few1 h_rules | exact h_rules.nd | exact h_rules.mem | exact o_eqlen hl | exact o_eqlen ho | exact o_short h_rules (o_sub6 e_open_so h_groups) | exact o_short h_rules (o_sub e_open_so h_groups3) | exact o_short h_rules (o_sub e_open_so h_groups4) | exact o_short h_rules (o_sub4 h_rules hl ho hL e_shown h_groups2) | exact o_short h_rules (o_shsub h_rules hl ho hL e_shown) | exact o_short h_rules (mem_sets.mp (by assumption)) | decide | skip), (by first | rfl | exact o_few h_rules | exact o_few1 h_rules | exact h_rules.nd | exact h_rules.mem | exact o_eqlen hl | exact o_eqlen ho | exact o_short h_rules (o_sub6 e_open_so h_groups) | exact o_short h_rules (o_sub e_open_so h_groups3) | exact o_short h_rules (o_sub e_open_so h_groups4) | exact o_short h_rules (o_sub4 h_rules hl ho hL e_shown h_groups2) | exact o_short h_rules (o_shsub h_rules hl ho hL e_shown) | exact o_short h_rules (mem_sets.mp (by assumption)) | decide | skip), (by first | rfl | exact o_few h_rules | exact o_few1 h_rules | exact h_rules.nd | exact h_rules.mem | exact o_eqlen hl | exact o_eqlen ho | exact o_short h_rules (o_sub6 e_open_so h_groups) | exact o_short h_rules (o_sub e_open_so h_groups3) | exact o_short h_rules (o_sub e_open_so h_groups4) | exact o_short h_rules (o_sub4 h_rules hl ho hL e_shown h_groups2) | exact o_short h_rules (o_shsub h_rules hl ho hL e_shown) | exact o_short h_rules (mem_sets.mp (by assumption)) | decide | skip), (by first | rfl | exact o_few h_rules | exact o_few1 h_rules | exact h_rules.nd | exact h_rules.mem | exact o_eqlen hl | exact o_eqlen ho | exact o_short h_rules (o_sub6 e_open_so h_groups) | exact o_short h_rules (o_sub e_open_so h_groups3) | exact o_short h_rules (o_sub e_open_so h_groups4) | exact o_short h_rules (o_sub4 h_rules hl ho hL e_shown h_groups2) | exact o_short h_rules (o_shsub h_rules hl ho hL e_shown) | exact o_short h_rules (mem_sets.mp (by assumption)) | decide | skip), rfl⟩) g fun bounds far2 e_bounds e_far2 => ?_
    refine st_ifF (Tv.cast (tv_pw (tw_or (tv_c (bz := false) (t_ne eI g (t_sum g far2 m_sum (ev_nm (d := ((eT eI).f far2)) 10) (sqeT _ _)) (t_max oI (0 : Int) g sums m_max (ev_nm (d := ((eL eI).f sums)) 19) (sqeL _ _) (by exact o_ne e_open_so e_sums)))) (fun hc7 => (tw_or (tv_not (tv_of (bz := false) (ev_fn F_law_keeps (hr.mono (by decide)) (av_cons (ev_nm (d := ((eP (eT eN) (eT (eT eN))).f rules)) 3) (av_cons (ev_nm (d := ((eT eI).f bounds)) 20) (av_cons (ev_nm (d := ((eT eI).f lot4)) 5) av_nil))) ⟨rules, bounds, lot4, rfl, rfl⟩))) (fun hc8 => (tw_or (tv_not (tv_of (bz := false) (ev_fn F_law_keeps (hr.mono (by decide)) (av_cons (ev_nm (d := ((eP (eT eN) (eT (eT eN))).f rules)) 3) (av_cons (ev_nm (d := ((eT eI).f bounds)) 20) (av_cons (ev_nm (d := ((eT eI).f far2)) 10) av_nil))) ⟨rules, bounds, far2, rfl, rfl⟩))) (fun hc9 => (tw_or1 (tv_c (bz := false) (t_isN (ev_fn F_full_cover (hr.mono (by decide)) (av_cons (ev_nm (d := ((eP (eT eN) (eT (eT eN))).f rules)) 3) (av_cons (ev_nm (d := ((eT eI).f bounds)) 20) (av_cons (ev_nm (d := ((eT eI).f lot4)) 5) (av_cons (ev_nm (d := ((eT eI).f far2)) 10) av_nil)))) ⟨true, rules, bounds, lot4, far2, rfl, rfl⟩))))))))))) (by exact o_check7 h_rules hl l0 e_bounds e_far2 (o_sums h_rules hl e_open_so e_sums))) ?_
    refine st_letD (i := 21) (((rules.1.zip (lot4.zip far2)).filter fun z2 => decide (z2.2.1 < z2.2.2)).map fun z2 => z2.1) (fun v => ((eL eN).f v)) (s_setLc (b_lc (own := [("name", 9), ("near", 16), ("much", 22)]) (gt := gTup K 3 (gCons (gName 9) (gCons (gName 16) (gCons (gName 22) gNil)))) (eP3 eN eI eI) eN (rules.1.zip (lot4.zip far2)) (fun z2 => decide (z2.2.1 < z2.2.2)) (fun z2 => z2.1) (fun z2 => [.no, .urn (m2 + 20 + 1 + (16 + 16) + 17), .val (.int j), .val ((eP (eT eN) (eT (eT eN))).f rules), .val ((eL (eT (eT eN))).f open_so), .val ((eT eI).f lot4), .val ((eQ z_given (eS z_given eN) (eS z_given (eS z_given eN))).f rules), .no, .no, .val (eN.f z2.1), .val ((eT eI).f far2), .no, .val ((eT eI).f other), .val ((eT eI).f limits), .val ((eT (eT eN)).f full), .val ((eL eN).f more), .val (eI.f z2.2.1), .val (eB.f good), .val ((eO (eT (eT eN)) (fun _ => nofun)).f shown), .val ((eL eI).f sums), .val ((eT eI).f bounds), .no, .val (eI.f z2.2.2), .no, .no, .no]) g (ti_zip3 eN eI eI rules.1 lot4 far2 m_zip (ev_ix (d := ((eT eN).f rules.1)) (ev_nm (d := ((eP (eT eN) (eT (eT eN))).f rules)) 3) ev_int (sqT _) rfl) (ev_nm (d := ((eT eI).f lot4)) 5) (ev_nm (d := ((eT eI).f far2)) 10) (sqeT _ _) (sqeT _ _) (sqeT _ _) fl_f fl_f fl_f) (blkOk_by (by rfl)) (fun _ _ _ _ _ => pg_tup g.calm (pgs_cons (pg_name (i := 9) g.nd rfl (by first | exact Or.inl rfl | exact Or.inr rfl)) (pgs_cons (pg_name (i := 16) g.nd rfl (by first | exact Or.inl rfl | exact Or.inr rfl)) (pgs_cons (pg_name (i := 22) g.nd rfl (by first | exact Or.inl rfl | exact Or.inr rfl)) pgs_nil)))) (fun _ _ => bd_tup (bds_cons bd_name (bds_cons bd_name (bds_cons bd_name bds_nil)))) (fun _ _ _ _ _ z2 h_z2 => tsv_one (tv_c (bz := false) (cv_gt (ev_nm (d := (eI.f z2.2.2)) 22) (ev_nm (d := (eI.f z2.2.1)) 16)))) (fun _ _ _ _ _ z2 h_z2 q_z2 => (ev_nm (d := (eN.f z2.1)) 9))) g) fun lack e_lack => ?_
    refine st_ifF (Tv.cast (tv_c (bz := false) (t_ne (eL eI) g (LcB.ev (b_lc (own := [("name", 9)]) (gt := gName 9) eN eI lack (fun name4 => (decide ((((law_full rules bounds lot4).filter fun group5 => (decide (name4 ∈ group5))).map fun group5 => (1 : Int)) = ([] : List Int)))) (fun name4 => (1 : Int)) (fun name4 => [.no, .urn (m2 + 20 + 1 + (16 + 16) + 17), .val (.int j), .val ((eP (eT eN) (eT (eT eN))).f rules), .val ((eL (eT (eT eN))).f open_so), .val ((eT eI).f lot4), .val ((eQ z_given (eS z_given eN) (eS z_given (eS z_given eN))).f rules), .no, .no, .val (eN.f name4), .val ((eT eI).f far2), .no, .val ((eT eI).f other), .val ((eT eI).f limits), .val ((eT (eT eN)).f full), .val ((eL eN).f more), .no, .val (eB.f good), .val ((eO (eT (eT eN)) (fun _ => nofun)).f shown), .val ((eL eI).f sums), .val ((eT eI).f bounds), .val ((eL eN).f lack), .no, .no, .no, .no]) g (ti_seq eN lack (ev_nm (d := ((eL eN).f lack)) 21) (sqeL _ _) fl_f) (blkOk_by (by rfl)) (fun _ _ _ _ _ => pg_name (i := 9) g.nd rfl (by first | exact Or.inl rfl | exact Or.inr rfl)) (fun _ _ => bd_name) (fun _ _ _ _ _ name4 h_name4 => tsv_one (tv_c (bz := false) (t_eq (eL eI) g (LcB.ev (b_lc (own := [("group", 11)]) (gt := gName 11) (eT eN) eI (law_full rules bounds lot4) (fun group5 => (decide (name4 ∈ group5))) (fun group5 => (1 : Int)) (fun group5 => [.no, .urn (m2 + 20 + 1 + (16 + 16) + 17), .val (.int j), .val ((eP (eT eN) (eT (eT eN))).f rules), .val ((eL (eT (eT eN))).f open_so), .val ((eT eI).f lot4), .val ((eQ z_given (eS z_given eN) (eS z_given (eS z_given eN))).f rules), .no, .no, .val (eN.f name4), .val ((eT eI).f far2), .val ((eT eN).f group5), .val ((eT eI).f other), .val ((eT eI).f limits), .val ((eT (eT eN)).f full), .val ((eL eN).f more), .no, .val (eB.f good), .val ((eO (eT (eT eN)) (fun _ => nofun)).f shown), .val ((eL eI).f sums), .val ((eT eI).f bounds), .val ((eL eN).f lack), .no, .no, .no, .no]) g (ti_seq (eT eN) (law_full rules bounds lot4) (ev_fn F_law_full (hr.mono (by decide)) (av_cons (ev_nm (d := ((eP (eT eN) (eT (eT eN))).f rules)) 3) (av_cons (ev_nm (d := ((eT eI).f bounds)) 20) (av_cons (ev_nm (d := ((eT eI).f lot4)) 5) av_nil))) ⟨rules, bounds, lot4, rfl, rfl⟩) (sqeT _ _) fl_f) (blkOk_by (by rfl)) (fun _ _ _ _ _ => pg_name (i := 11) g.nd rfl (by first | exact Or.inl rfl | exact Or.inr rfl)) (fun _ _ => bd_name) (fun _ _ _ _ _ group5 h_group5 => tsv_one (tv_c (bz := false) (t_in eN g (ev_nm (d := (eN.f name4)) 9) (ev_nm (d := ((eT eN).f group5)) 11) (sqeT _ _)))) (fun _ _ _ _ _ group5 h_group5 q_group5 => ev_int))) (t_lstD eI [] av_nil (Nat.zero_le _))))) (fun _ _ _ _ _ name4 h_name4 q_name4 => ev_int))) (t_lstD eI [] av_nil (Nat.zero_le _)))) (by exact o_check8 h_rules hl l0 e_bounds e_far2 e_lack)) ?_
    refine st_letD (i := 23) ((is_beside rules lot4 (bounds, far2)) :: ((is_beside rules lot4 (bounds, ((cutT far2 none (some ((far2.length : Int) - (1 : Int)))) ++ (((ixT (0 : Int) far2 ((far2.length : Int) - (1 : Int))) + (1 : Int)) :: ([] : List Int))))) :: ((is_beside_list rules lot4 (bounds, far2)) :: ([] : List Bool)))) (fun v => ((eL eB).f v)) (s_set (t_lstD eB ((is_beside rules lot4 (bounds, far2)) :: ((is_beside rules lot4 (bounds, ((cutT far2 none (some ((far2.length : Int) - (1 : Int)))) ++ (((ixT (0 : Int) far2 ((far2.length : Int) - (1 : Int))) + (1 : Int)) :: ([] : List Int))))) :: ((is_beside_list rules lot4 (bounds, far2)) :: ([] : List Bool)))) (t_avc eB (is_beside rules lot4 (bounds, far2)) ((is_beside rules lot4 (bounds, ((cutT far2 none (some ((far2.length : Int) - (1 : Int)))) ++ (((ixT (0 : Int) far2 ((far2.length : Int) - (1 : Int))) + (1 : Int)) :: ([] : List Int))))) :: ((is_beside_list rules lot4 (bounds, far2)) :: ([] : List Bool))) (ev_fn F_is_beside (hr.mono (by decide)) (av_cons (ev_nm (d := ((eP (eT eN) (eT (eT eN))).f rules)) 3) (av_cons (ev_nm (d := ((eT eI).f lot4)) 5) (av_cons (ev_tup (av_cons (ev_nm (d := ((eT eI).f bounds)) 20) (av_cons (ev_nm (d := ((eT eI).f far2)) 10) av_nil)) (Nat.le_of_ble_eq_true rfl)) av_nil))) (.inl ⟨true, rules, lot4, (bounds, far2), rfl, (by first | rfl | exact o_few h_rules | exact o_few1 h_rules | exact h_rules.nd | exact h_rules.mem | exact o_eqlen hl | exact o_eqlen ho | exact o_short h_rules (o_sub6 e_open_so h_groups) | exact o_short h_rules (o_sub e_open_so h_groups3) | exact o_short h_rules (o_sub e_open_so h_groups4) | exact o_short h_rules (o_sub4 h_rules hl ho hL e_shown h_groups2) | exact o_short h_rules (o_shsub h_rules hl ho hL e_shown) | exact o_short h_rules (mem_sets.mp (by assumption)) | decide | skip), rfl⟩)) (t_avc eB (is_beside rules lot4 (bounds, ((cutT far2 none (some ((far2.length : Int) - (1 : Int)))) ++ (((ixT (0 : Int) far2 ((far2.length : Int) - (1 : Int))) + (1 : Int)) :: ([] : List Int))))) ((is_beside_list rules lot4 (bounds, far2)) :: ([] : List Bool)) (ev_fn F_is_beside (hr.mono (by decide)) (av_cons (ev_nm (d := ((eP (eT eN) (eT (eT eN))).f rules)) 3) (av_cons (ev_nm (d := ((eT eI).f lot4)) 5) (av_cons (ev_tup (av_cons (ev_nm (d := ((eT eI).f bounds)) 20) (av_cons (t_catT eI (cutT far2 none (some ((far2.length : Int) - (1 : Int)))) (((ixT (0 : Int) far2 ((far2.length : Int) - (1 : Int))) + (1 : Int)) :: ([] : List Int)) (t_sliceT eI far2 (ev_nm (d := ((eT eI).f far2)) 10) pv_none (pv_some (ev_sub (t_len eI far2 m_len (ev_nm (d := ((eT eI).f far2)) 10) (sqeT _ _)) ev_int))) (t_tupD eI (((ixT (0 : Int) far2 ((far2.length : Int) - (1 : Int))) + (1 : Int)) :: ([] : List Int)) (t_avc eI ((ixT (0 : Int) far2 ((far2.length : Int) - (1 : Int))) + (1 : Int)) ([] : List Int) (ev_add (t_ix eI (0 : Int) far2 (ev_nm (d := ((eT eI).f far2)) 10) (ev_sub (t_len eI far2 m_len (ev_nm (d := ((eT eI).f far2)) 10) (sqeT _ _)) ev_int) (sqeT _ _) (by exact o_farix h_rules hl l0 e_far2)) ev_int) av_nil) (Nat.le_of_ble_eq_true rfl)) (by first | exact o_cat4 h_rules | exact o_cat6 h_rules hl l0 e_far2)) av_nil)) (Nat.le_of_ble_eq_true rfl)) av_nil))) (.inl ⟨true, rules, lot4, (bounds, ((cutT far2 none (some ((far2.length : Int) - (1 : Int)))) ++ (((ixT (0 : Int) far2 ((far2.length : Int) - (1 : Int))) + (1 : Int)) :: ([] : List Int)))), rfl, (by first | rfl | exact o_few h_rules | exact o_few1 h_rules | exact h_rules.nd | exact h_rules.mem | exact o_eqlen hl | exact o_eqlen ho | exact o_short h_rules (o_sub6 e_open_so h_groups) | exact o_short h_rules (o_sub e_open_so h_groups3) | exact o_short h_rules (o_sub e_open_so h_groups4) | exact o_short h_rules (o_sub4 h_rules hl ho hL e_shown h_groups2) | exact o_short h_rules (o_shsub h_rules hl ho hL e_shown) | exact o_short h_rules (mem_sets.mp (by assumption)) | decide | skip), rfl⟩)) (t_avc eB (is_beside_list rules lot4 (bounds, far2)) ([] : List Bool) (ev_fn F_is_beside (hr.mono (by decide)) (av_cons (ev_nm (d := ((eP (eT eN) (eT (eT eN))).f rules)) 3) (av_cons (ev_nm (d := ((eT eI).f lot4)) 5) (av_cons (t_lst2 (ev_nm (d := ((eT eI).f bounds)) 20) (ev_nm (d := ((eT eI).f far2)) 10)) av_nil))) (.inr ⟨true, rules, lot4, (bounds, far2), rfl, rfl⟩)) av_nil))) (Nat.le_of_ble_eq_true rfl)) g) fun got e_got => ?_
    refine st_ifF (Tv.cast (tv_not (tv_of (bz := false) (t_same F_law_same (hr.mono (by decide)) (ev_nm (d := ((eL eB).f got)) 23) (t_lstD eB (true :: (false :: (false :: ([] : List Bool)))) (t_avc eB true (false :: (false :: ([] : List Bool))) ev_bl (t_avc eB false (false :: ([] : List Bool)) ev_bl (t_avc eB false ([] : List Bool) ev_bl av_nil))) (Nat.le_of_ble_eq_true rfl)) (by exact o_same6 h_rules hl l0 e_bounds e_far2 e_got)))) (by first | rfl | exact o_few h_rules | exact o_few1 h_rules | exact h_rules.nd | exact h_rules.mem | exact o_eqlen hl | exact o_eqlen ho | exact o_short h_rules (o_sub6 e_open_so h_groups) | exact o_short h_rules (o_sub e_open_so h_groups3) | exact o_short h_rules (o_sub e_open_so h_groups4) | exact o_short h_rules (o_sub4 h_rules hl ho hL e_shown h_groups2) | exact o_short h_rules (o_shsub h_rules hl ho hL e_shown) | exact o_short h_rules (mem_sets.mp (by assumption)) | decide | skip)) ?_
    refine st_setD (i := 1) (l := 24) (m := m2 + 20 + 1 + (16 + 16) + 17) (c := 16) (E := (eT eI)) (Q := (fun zs : List Int => zs.length = (lot4).length ∧ ∀ (k : Nat) (near : Int) (z : Int), (lot4)[k]? = some near → zs[k]? = some z → (fun z : Int => ∃ x y, (fun x : Int => x = near) x ∧ (fun r : Int => 0 ≤ r ∧ r < (3 : Int)) y ∧ z = x + y) z)) (d_tuple m_tuple (d_lc (own := [("near", 16)]) (gt := gName 16) (c2 := 1) eI eI lot4 (fun near => (fun z : Int => ∃ x y, (fun x : Int => x = near) x ∧ (fun r : Int => 0 ≤ r ∧ r < (3 : Int)) y ∧ z = x + y)) (fun near => [.no, .no, .val (.int j), .val ((eP (eT eN) (eT (eT eN))).f rules), .val ((eL (eT (eT eN))).f open_so), .val ((eT eI).f lot4), .val ((eQ z_given (eS z_given eN) (eS z_given (eS z_given eN))).f rules), .no, .no, .no, .val ((eT eI).f far2), .no, .val ((eT eI).f other), .val ((eT eI).f limits), .val ((eT (eT eN)).f full), .val ((eL eN).f more), .val (eI.f near), .val (eB.f good), .val ((eO (eT (eT eN)) (fun _ => nofun)).f shown), .val ((eL eI).f sums), .val ((eT eI).f bounds), .val ((eL eN).f lack), .no, .val ((eL eB).f got), .no, .no]) g (fun mq => (ti_seq eI lot4 (ev_nm (d := ((eT eI).f lot4)) 5) (sqeT _ _) fl_f)) (blkOk_by (by rfl)) (fun _ _ _ _ _ => pg_name (i := 16) g.nd rfl (by first | exact Or.inl rfl | exact Or.inr rfl)) (fun _ _ _ => bd_name) (fun _ _ => OneU.of rfl) (fun _ _ _ _ _ near h_near => (d_add (c1 := 0) (c2 := 1) (d_pure (E := eI) (v := near) fun mq => (ev_nm (d := (eI.f near)) 16)) (d_take (n := (3 : Int)) F_law_take (hr.mono (by decide)) (fun mq => ev_int) (by decide)))) 16 (by have := h_rules.len; rw [← o_eqlen hl]; omega))) g (fun wants h_wants => ?_) (by omega)
    obtain ⟨w, hw, w0⟩ := drawnW h_rules.nd hl l0 h_wants
    refine st_letD (i := 25) (((full_cover rules limits lot4 wants)).isSome && (keeps rules limits lot4)) (fun v => (eB.f v)) (s_set (ev_and (ev_c (t_notN (ev_fn F_full_cover (hr.mono (by decide)) (av_cons (ev_nm (d := ((eP (eT eN) (eT (eT eN))).f rules)) 3) (av_cons (ev_nm (d := ((eT eI).f limits)) 13) (av_cons (ev_nm (d := ((eT eI).f lot4)) 5) (av_cons (ev_nm (d := ((eT eI).f wants)) 24) av_nil)))) ⟨true, rules, limits, lot4, wants, rfl, rfl⟩))) (fun hc10 => (ev_one (ev_fn F_keeps (hr.mono (by decide)) (av_cons (ev_nm (d := ((eP (eT eN) (eT (eT eN))).f rules)) 3) (av_cons (ev_nm (d := ((eT eI).f limits)) 13) (av_cons (ev_nm (d := ((eT eI).f lot4)) 5) av_nil))) ⟨true, rules, limits, lot4, rfl, (by first | rfl | exact o_few h_rules | exact o_few1 h_rules | exact h_rules.nd | exact h_rules.mem | exact o_eqlen hl | exact o_eqlen ho | exact o_short h_rules (o_sub6 e_open_so h_groups) | exact o_short h_rules (o_sub e_open_so h_groups3) | exact o_short h_rules (o_sub e_open_so h_groups4) | exact o_short h_rules (o_sub4 h_rules hl ho hL e_shown h_groups2) | exact o_short h_rules (o_shsub h_rules hl ho hL e_shown) | exact o_short h_rules (mem_sets.mp (by assumption)) | decide | skip), (by first | rfl | exact o_few h_rules | exact o_few1 h_rules | exact h_rules.nd | exact h_rules.mem | exact o_eqlen hl | exact o_eqlen ho | exact o_short h_rules (o_sub6 e_open_so h_groups) | exact o_short h_rules (o_sub e_open_so h_groups3) | exact o_short h_rules (o_sub e_open_so h_groups4) | exact o_short h_rules (o_sub4 h_rules hl ho hL e_shown h_groups2) | exact o_short h_rules (o_shsub h_rules hl ho hL e_shown) | exact o_short h_rules (mem_sets.mp (by assumption)) | decide | skip), (by first | rfl | exact o_few h_rules | exact o_few1 h_rules | exact h_rules.nd | exact h_rules.mem | exact o_eqlen hl | exact o_eqlen ho | exact o_short h_rules (o_sub6 e_open_so h_groups) | exact o_short h_rules (o_sub e_open_so h_groups3) | exact o_short h_rules (o_sub e_open_so h_groups4) | exact o_short h_rules (o_sub4 h_rules hl ho hL e_shown h_groups2) | exact o_short h_rules (o_shsub h_rules hl ho hL e_shown) | exact o_short h_rules (mem_sets.mp (by assumption)) | decide | skip), rfl⟩)))) g) fun reach e_reach => ?_
    refine st_ifF (Tv.cast (tv_pw (tw_and (tv_c (bz := false) (cv_le (t_sum g wants m_sum (ev_nm (d := ((eT eI).f wants)) 24) (sqeT _ _)) ev_int)) (fun hc11 => (tw_and1 (tv_not (tv_of (bz := false) (t_same F_law_same (hr.mono (by decide)) (ev_fn F_is_end (hr.mono (by decide)) (av_cons (ev_nm (d := ((eP (eT eN) (eT (eT eN))).f rules)) 3) (av_cons (ev_nm (d := ((eT eI).f limits)) 13) (av_cons (ev_nm (d := ((eT eI).f wants)) 24) (av_cons (ev_nm (d := ((eT eI).f lot4)) 5) av_nil)))) ⟨true, rules, limits, wants, lot4, rfl, (by first | rfl | exact o_few h_rules | exact o_few1 h_rules | exact h_rules.nd | exact h_rules.mem | exact o_eqlen hl | exact o_eqlen ho | exact o_short h_rules (o_sub6 e_open_so h_groups) | exact o_short h_rules (o_sub e_open_so h_groups3) | exact o_short h_rules (o_sub e_open_so h_groups4) | exact o_short h_rules (o_sub4 h_rules hl ho hL e_shown h_groups2) | exact o_short h_rules (o_shsub h_rules hl ho hL e_shown) | exact o_short h_rules (mem_sets.mp (by assumption)) | decide | skip), (by first | rfl | exact o_few h_rules | exact o_few1 h_rules | exact h_rules.nd | exact h_rules.mem | exact o_eqlen hl | exact o_eqlen ho | exact o_short h_rules (o_sub6 e_open_so h_groups) | exact o_short h_rules (o_sub e_open_so h_groups3) | exact o_short h_rules (o_sub e_open_so h_groups4) | exact o_short h_rules (o_sub4 h_rules hl ho hL e_shown h_groups2) | exact o_short h_rules (o_shsub h_rules hl ho hL e_shown) | exact o_short h_rules (mem_sets.mp (by assumption)) | decide | skip), (by first | rfl | exact o_few h_rules | exact o_few1 h_rules | exact h_rules.nd | exact h_rules.mem | exact o_eqlen hl | exact o_eqlen ho | exact o_short h_rules (o_sub6 e_open_so h_groups) | exact o_short h_rules (o_sub e_open_so h_groups3) | exact o_short h_rules (o_sub e_open_so h_groups4) | exact o_short h_rules (o_sub4 h_rules hl ho hL e_shown h_groups2) | exact o_short h_rules (o_shsub h_rules hl ho hL e_shown) | exact o_short h_rules (mem_sets.mp (by assumption)) | decide | skip), rfl⟩) (ev_nm (d := (eB.f reach)) 25) (by exact o_same7 h_rules hl l0 hw w0 hL e_reach)))))))) (by exact Bool.and_false _)) ?_
    exact st_end (Γ' := [.no, .urn (m2 + 20 + 1 + (16 + 16) + 17 + 16), .no, .no, .no, .no, .no, .no, .no, .no, .no, .no, .no, .no, .no, .no, .no, .no, .no, .no, .no, .no, .no, .no, .no, .no]) (by repeat (first | exact Wk.nil | apply Wk.same | apply Wk.drop)) ⟨_, by omega, rfl⟩
  · rintro n G0 hn ⟨m2, hm2, rfl⟩
    exact st_one (s_ret ev_bl rfl)
end K

namespace K
open PySem PySem.Spec PyProof.Rows L2 DL
def d_is_number : He.DefD := ⟨("is_number", none), "is_number", "is_number", defArgs s_is_number, defBody s_is_number, defScope s_is_number, [], []⟩
def d_is_rising : He.DefD := ⟨("is_rising", none), "is_rising", "is_rising", defArgs s_is_rising, defBody s_is_rising, defScope s_is_rising, [], []⟩
def d_tupled : He.DefD := ⟨("tupled", none), "tupled", "tupled", defArgs s_tupled, defBody s_tupled, defScope s_tupled, [], []⟩
def d_are_numbers : He.DefD := ⟨("are_numbers", none), "are_numbers", "are_numbers", defArgs s_are_numbers, defBody s_are_numbers, defScope s_are_numbers, [], []⟩
def d_is_limits : He.DefD := ⟨("is_limits", none), "is_limits", "is_limits", defArgs s_is_limits, defBody s_is_limits, defScope s_is_limits, [], []⟩
def d_is_demands : He.DefD := ⟨("is_demands", none), "is_demands", "is_demands", defArgs s_is_demands, defBody s_is_demands, defScope s_is_demands, [], []⟩
def d_own_kinds : He.DefD := ⟨("own_kinds", none), "own_kinds", "own_kinds", defArgs s_own_kinds, defBody s_own_kinds, defScope s_own_kinds, [], []⟩
def d_is_group_set : He.DefD := ⟨("is_group_set", none), "is_group_set", "is_group_set", defArgs s_is_group_set, defBody s_is_group_set, defScope s_is_group_set, [], []⟩
def d_is_open : He.DefD := ⟨("is_open", none), "is_open", "is_open", defArgs s_is_open, defBody s_is_open, defScope s_is_open, [], []⟩
def d_open_sets : He.DefD := ⟨("open_sets", none), "open_sets", "open_sets", defArgs s_open_sets, defBody s_open_sets, defScope s_open_sets, [], []⟩
def d_all_open : He.DefD := ⟨("all_open", none), "all_open", "all_open", defArgs s_all_open, defBody s_all_open, defScope s_all_open, [], []⟩
def d_counted : He.DefD := ⟨("counted", none), "counted", "counted", defArgs s_counted, defBody s_counted, defScope s_counted, [], []⟩
def d_cover_sum : He.DefD := ⟨("cover_sum", none), "cover_sum", "cover_sum", defArgs s_cover_sum, defBody s_cover_sum, defScope s_cover_sum, [], []⟩
def d_greatest_beside : He.DefD := ⟨("greatest_beside", none), "greatest_beside", "greatest_beside", defArgs s_greatest_beside, defBody s_greatest_beside, defScope s_greatest_beside, [], []⟩
def d_load_of : He.DefD := ⟨("load_of", none), "load_of", "load_of", defArgs s_load_of, defBody s_load_of, defScope s_load_of, [], []⟩
def d_loads_of : He.DefD := ⟨("loads_of", none), "loads_of", "loads_of", defArgs s_loads_of, defBody s_loads_of, defScope s_loads_of, [], []⟩
def d_beside_paper : He.DefD := ⟨("beside_paper", none), "beside_paper", "beside_paper", defArgs s_beside_paper, defBody s_beside_paper, defScope s_beside_paper, [], []⟩
def d_keeps_all : He.DefD := ⟨("keeps_all", none), "keeps_all", "keeps_all", defArgs s_keeps_all, defBody s_keeps_all, defScope s_keeps_all, [], []⟩
def d_filled : He.DefD := ⟨("filled", none), "filled", "filled", defArgs s_filled, defBody s_filled, defScope s_filled, [], []⟩
def d_lacking : He.DefD := ⟨("lacking", none), "lacking", "lacking", defArgs s_lacking, defBody s_lacking, defScope s_lacking, [], []⟩
def d_is_covered : He.DefD := ⟨("is_covered", none), "is_covered", "is_covered", defArgs s_is_covered, defBody s_is_covered, defScope s_is_covered, [], []⟩
def d_is_beside : He.DefD := ⟨("is_beside", none), "is_beside", "is_beside", defArgs s_is_beside, defBody s_is_beside, defScope s_is_beside, [], []⟩
def d_full_cover : He.DefD := ⟨("full_cover", none), "full_cover", "full_cover", defArgs s_full_cover, defBody s_full_cover, defScope s_full_cover, [], []⟩
def d_is_full_cover : He.DefD := ⟨("is_full_cover", none), "is_full_cover", "is_full_cover", defArgs s_is_full_cover, defBody s_is_full_cover, defScope s_is_full_cover, [], []⟩
def d_loads : He.DefD := ⟨("loads", none), "loads", "loads", defArgs s_loads, defBody s_loads, defScope s_loads, [], []⟩
def d_left_in : He.DefD := ⟨("left_in", none), "left_in", "left_in", defArgs s_left_in, defBody s_left_in, defScope s_left_in, [], []⟩
def d_keeps : He.DefD := ⟨("keeps", none), "keeps", "keeps", defArgs s_keeps, defBody s_keeps, defScope s_keeps, [], []⟩
def d_full_groups : He.DefD := ⟨("full_groups", none), "full_groups", "full_groups", defArgs s_full_groups, defBody s_full_groups, defScope s_full_groups, [], []⟩
def d_is_shut : He.DefD := ⟨("is_shut", none), "is_shut", "is_shut", defArgs s_is_shut, defBody s_is_shut, defScope s_is_shut, [], []⟩
def d_is_end : He.DefD := ⟨("is_end", none), "is_end", "is_end", defArgs s_is_end, defBody s_is_end, defScope s_is_end, [], []⟩
def d_law_box : He.DefD := ⟨("_law_box", none), "_law_box", "_law_box", defArgs s_law_box, defBody s_law_box, defScope s_law_box, [], []⟩
def d_law_take : He.DefD := ⟨("_law_take", none), "_law_take", "_law_take", defArgs s_law_take, defBody s_law_take, defScope s_law_take, [], []⟩
def d_law_cells : He.DefD := ⟨("_law_cells", none), "_law_cells", "_law_cells", defArgs s_law_cells, defBody s_law_cells, defScope s_law_cells, [], []⟩
def d_law_soft : He.DefD := ⟨("_law_soft", none), "_law_soft", "_law_soft", defArgs s_law_soft, defBody s_law_soft, defScope s_law_soft, [], []⟩
def d_law_same : He.DefD := ⟨("_law_same", none), "_law_same", "_law_same", defArgs s_law_same, defBody s_law_same, defScope s_law_same, [], []⟩
def d_law_rules : He.DefD := ⟨("_law_rules", none), "_law_rules", "_law_rules", defArgs s_law_rules, defBody s_law_rules, defScope s_law_rules, [], []⟩
def d_law_numbers : He.DefD := ⟨("_law_numbers", none), "_law_numbers", "_law_numbers", defArgs s_law_numbers, defBody s_law_numbers, defScope s_law_numbers, [], []⟩
def d_law_loads : He.DefD := ⟨("_law_loads", none), "_law_loads", "_law_loads", defArgs s_law_loads, defBody s_law_loads, defScope s_law_loads, [], []⟩
def d_law_keeps : He.DefD := ⟨("_law_keeps", none), "_law_keeps", "_law_keeps", defArgs s_law_keeps, defBody s_law_keeps, defScope s_law_keeps, [], []⟩
def d_law_full : He.DefD := ⟨("_law_full", none), "_law_full", "_law_full", defArgs s_law_full, defBody s_law_full, defScope s_law_full, [], []⟩
def d_law_sets : He.DefD := ⟨("_law_sets", none), "_law_sets", "_law_sets", defArgs s_law_sets, defBody s_law_sets, defScope s_law_sets, [], []⟩
def d_law_is_open : He.DefD := ⟨("_law_is_open", none), "_law_is_open", "_law_is_open", defArgs s_law_is_open, defBody s_law_is_open, defScope s_law_is_open, [], []⟩
def d_law_cover : He.DefD := ⟨("_law_cover", none), "_law_cover", "_law_cover", defArgs s_law_cover, defBody s_law_cover, defScope s_law_cover, [], []⟩
def d_law_is_cover : He.DefD := ⟨("_law_is_cover", none), "_law_is_cover", "_law_is_cover", defArgs s_law_is_cover, defBody s_law_is_cover, defScope s_law_is_cover, [], []⟩
def d_law : He.DefD := ⟨("law", none), "law", "law", defArgs s_law, defBody s_law, defScope s_law, [], []⟩
def fn : List He.DefD := [d_is_number, d_is_rising, d_tupled, d_are_numbers, d_is_limits, d_is_demands, d_own_kinds, d_is_group_set, d_is_open, d_open_sets, d_all_open, d_counted, d_cover_sum, d_greatest_beside, d_load_of, d_loads_of, d_beside_paper, d_keeps_all, d_filled, d_lacking, d_is_covered, d_is_beside, d_full_cover, d_is_full_cover, d_loads, d_left_in, d_keeps, d_full_groups, d_is_shut, d_is_end, d_law_box, d_law_take, d_law_cells, d_law_soft, d_law_same, d_law_rules, d_law_numbers, d_law_loads, d_law_keeps, d_law_full, d_law_sets, d_law_is_open, d_law_cover, d_law_is_cover, d_law]
def fa : List He.Fa := [.glo "is_number", .glo "is_rising", .glo "tupled", .glo "are_numbers", .glo "is_limits", .glo "is_demands", .glo "own_kinds", .glo "is_group_set", .glo "is_open", .glo "open_sets", .glo "all_open", .glo "counted", .glo "cover_sum", .glo "greatest_beside", .glo "load_of", .glo "loads_of", .glo "beside_paper", .glo "keeps_all", .glo "filled", .glo "lacking", .glo "is_covered", .glo "is_beside", .glo "full_cover", .glo "is_full_cover", .glo "loads", .glo "left_in", .glo "keeps", .glo "full_groups", .glo "is_shut", .glo "is_end", .glo "_law_box", .glo "_law_take", .glo "_law_cells", .glo "_law_soft", .glo "_law_same", .glo "_law_rules", .glo "_law_numbers", .glo "_law_loads", .glo "_law_keeps", .glo "_law_full", .glo "_law_sets", .glo "_law_is_open", .glo "_law_cover", .glo "_law_is_cover", .glo "law", .free "abs", .free "all", .free "any", .free "bool", .free "dict", .free "enumerate", .free "int", .free "isinstance", .free "len", .free "list", .free "max", .free "range", .free "sorted", .free "str", .free "sum", .free "tuple", .free "zip", .int "PAIR" 2]
def loose0 : List PySem.Str := [Str.ofString "is_number", Str.ofString "is_rising", Str.ofString "tupled", Str.ofString "are_numbers", Str.ofString "is_limits", Str.ofString "is_demands", Str.ofString "own_kinds", Str.ofString "is_group_set", Str.ofString "is_open", Str.ofString "open_sets", Str.ofString "all_open", Str.ofString "PAIR", Str.ofString "counted", Str.ofString "cover_sum", Str.ofString "greatest_beside", Str.ofString "load_of", Str.ofString "loads_of", Str.ofString "beside_paper", Str.ofString "keeps_all", Str.ofString "filled", Str.ofString "lacking", Str.ofString "is_covered", Str.ofString "is_beside", Str.ofString "full_cover", Str.ofString "is_full_cover", Str.ofString "loads", Str.ofString "left_in", Str.ofString "keeps", Str.ofString "full_groups", Str.ofString "is_shut"]
def loose1 : List PySem.Str := [Str.ofString "is_end", Str.ofString "_law_box", Str.ofString "_law_take", Str.ofString "_law_cells", Str.ofString "_law_soft", Str.ofString "_law_same", Str.ofString "_law_rules", Str.ofString "_law_numbers", Str.ofString "_law_loads", Str.ofString "_law_keeps", Str.ofString "_law_full", Str.ofString "_law_sets", Str.ofString "_law_is_open", Str.ofString "_law_cover", Str.ofString "_law_is_cover"]
def loose : List PySem.Str := loose0 ++ loose1
abbrev R : PySem.W.OpenRow := PySem.W.OpenLaw.row PySem.Challenge.rw_crosslimits_k77_across_covers_open_group
abbrev hk : PySem.W.Hook := He.hookD 4 fa fn
def ob (s : PySem.W.SharedT) : He.AlD := He.obsDG 4 fa fn (HandSHeadRun.getT s)
theorem ob_eq (s : PySem.W.SharedT) : ob s = hk.obs s.abs := He.obsDG_eq (HandSHeadRun.getT_eq s)
theorem run (w : World) : HandSHeadRun.RunEq R (PySem.W.view R.prog [52]) hk ob 3000 loose w := by
  intro os
  kernel_rfl
set_option maxHeartbeats 0 in
theorem facts {Pr : Program} {w : World} {K : PySem.W.Frag} {h : Heap} {mg : Str → Option Value} {f : Addr} (X : K.In h) (G : h.Ns mainGlobals mg) (hfa : mg ("law" : Str) = some (.ref f)) (c : He.SaysD fa fn K) :
    ∃ fd : FuncData, (∀ (s : Shared) (v : Value), BindsTo s fd ⟨[v], []⟩ [("script", v)]) ∧ ∀ base : Heap, K.In base → base.Ns mainGlobals mg → FnOk Pr w K mg base CX0 13 f fd ["script"] (spLaw K) := by
  have m_abs : mg "abs" = none := He.free_ok X G (c.fact 45 (f := .free "abs") rfl)
  have m_all : mg "all" = none := He.free_ok X G (c.fact 46 (f := .free "all") rfl)
  have m_any : mg "any" = none := He.free_ok X G (c.fact 47 (f := .free "any") rfl)
  have m_bool : mg "bool" = none := He.free_ok X G (c.fact 48 (f := .free "bool") rfl)
  have m_dict : mg "dict" = none := He.free_ok X G (c.fact 49 (f := .free "dict") rfl)
  have m_enumerate : mg "enumerate" = none := He.free_ok X G (c.fact 50 (f := .free "enumerate") rfl)
  have m_int : mg "int" = none := He.free_ok X G (c.fact 51 (f := .free "int") rfl)
  have m_isinstance : mg "isinstance" = none := He.free_ok X G (c.fact 52 (f := .free "isinstance") rfl)
  have m_len : mg "len" = none := He.free_ok X G (c.fact 53 (f := .free "len") rfl)
  have m_list : mg "list" = none := He.free_ok X G (c.fact 54 (f := .free "list") rfl)
  have m_max : mg "max" = none := He.free_ok X G (c.fact 55 (f := .free "max") rfl)
  have m_range : mg "range" = none := He.free_ok X G (c.fact 56 (f := .free "range") rfl)
  have m_sorted : mg "sorted" = none := He.free_ok X G (c.fact 57 (f := .free "sorted") rfl)
  have m_str : mg "str" = none := He.free_ok X G (c.fact 58 (f := .free "str") rfl)
  have m_sum : mg "sum" = none := He.free_ok X G (c.fact 59 (f := .free "sum") rfl)
  have m_tuple : mg "tuple" = none := He.free_ok X G (c.fact 60 (f := .free "tuple") rfl)
  have m_zip : mg "zip" = none := He.free_ok X G (c.fact 61 (f := .free "zip") rfl)
  have g_PAIR : ∃ t, mg "PAIR" = some (.int 2 t) := He.int_ok X G (c.fact 62 (f := .int "PAIR" 2) rfl)
  obtain ⟨fd_is_number, D_is_number⟩ := c.def_ 0 (d := d_is_number) rfl
  have D_is_number : FnP K "is_number" s_is_number (He.ga K "is_number") fd_is_number := D_is_number
  have gl_is_number : mg "is_number" = some (.ref (He.ga K "is_number")) := He.glo_ok X G (c.fact 0 (f := .glo "is_number") rfl)
  obtain ⟨fd_is_rising, D_is_rising⟩ := c.def_ 1 (d := d_is_rising) rfl
  have D_is_rising : FnP K "is_rising" s_is_rising (He.ga K "is_rising") fd_is_rising := D_is_rising
  have gl_is_rising : mg "is_rising" = some (.ref (He.ga K "is_rising")) := He.glo_ok X G (c.fact 1 (f := .glo "is_rising") rfl)
  obtain ⟨fd_tupled, D_tupled⟩ := c.def_ 2 (d := d_tupled) rfl
  have D_tupled : FnP K "tupled" s_tupled (He.ga K "tupled") fd_tupled := D_tupled
  have gl_tupled : mg "tupled" = some (.ref (He.ga K "tupled")) := He.glo_ok X G (c.fact 2 (f := .glo "tupled") rfl)
  obtain ⟨fd_are_numbers, D_are_numbers⟩ := c.def_ 3 (d := d_are_numbers) rfl
  have D_are_numbers : FnP K "are_numbers" s_are_numbers (He.ga K "are_numbers") fd_are_numbers := D_are_numbers
  have gl_are_numbers : mg "are_numbers" = some (.ref (He.ga K "are_numbers")) := He.glo_ok X G (c.fact 3 (f := .glo "are_numbers") rfl)
  obtain ⟨fd_is_limits, D_is_limits⟩ := c.def_ 4 (d := d_is_limits) rfl
  have D_is_limits : FnP K "is_limits" s_is_limits (He.ga K "is_limits") fd_is_limits := D_is_limits
  have gl_is_limits : mg "is_limits" = some (.ref (He.ga K "is_limits")) := He.glo_ok X G (c.fact 4 (f := .glo "is_limits") rfl)
  obtain ⟨fd_is_demands, D_is_demands⟩ := c.def_ 5 (d := d_is_demands) rfl
  have D_is_demands : FnP K "is_demands" s_is_demands (He.ga K "is_demands") fd_is_demands := D_is_demands
  have gl_is_demands : mg "is_demands" = some (.ref (He.ga K "is_demands")) := He.glo_ok X G (c.fact 5 (f := .glo "is_demands") rfl)
  obtain ⟨fd_own_kinds, D_own_kinds⟩ := c.def_ 6 (d := d_own_kinds) rfl
  have D_own_kinds : FnP K "own_kinds" s_own_kinds (He.ga K "own_kinds") fd_own_kinds := D_own_kinds
  have gl_own_kinds : mg "own_kinds" = some (.ref (He.ga K "own_kinds")) := He.glo_ok X G (c.fact 6 (f := .glo "own_kinds") rfl)
  obtain ⟨fd_is_group_set, D_is_group_set⟩ := c.def_ 7 (d := d_is_group_set) rfl
  have D_is_group_set : FnP K "is_group_set" s_is_group_set (He.ga K "is_group_set") fd_is_group_set := D_is_group_set
  have gl_is_group_set : mg "is_group_set" = some (.ref (He.ga K "is_group_set")) := He.glo_ok X G (c.fact 7 (f := .glo "is_group_set") rfl)
  obtain ⟨fd_is_open, D_is_open⟩ := c.def_ 8 (d := d_is_open) rfl
  have D_is_open : FnP K "is_open" s_is_open (He.ga K "is_open") fd_is_open := D_is_open
  have gl_is_open : mg "is_open" = some (.ref (He.ga K "is_open")) := He.glo_ok X G (c.fact 8 (f := .glo "is_open") rfl)
  obtain ⟨fd_open_sets, D_open_sets⟩ := c.def_ 9 (d := d_open_sets) rfl
  have D_open_sets : FnP K "open_sets" s_open_sets (He.ga K "open_sets") fd_open_sets := D_open_sets
  have gl_open_sets : mg "open_sets" = some (.ref (He.ga K "open_sets")) := He.glo_ok X G (c.fact 9 (f := .glo "open_sets") rfl)
  obtain ⟨fd_all_open, D_all_open⟩ := c.def_ 10 (d := d_all_open) rfl
  have D_all_open : FnP K "all_open" s_all_open (He.ga K "all_open") fd_all_open := D_all_open
  have gl_all_open : mg "all_open" = some (.ref (He.ga K "all_open")) := He.glo_ok X G (c.fact 10 (f := .glo "all_open") rfl)
  obtain ⟨fd_counted, D_counted⟩ := c.def_ 11 (d := d_counted) rfl
  have D_counted : FnP K "counted" s_counted (He.ga K "counted") fd_counted := D_counted
  have gl_counted : mg "counted" = some (.ref (He.ga K "counted")) := He.glo_ok X G (c.fact 11 (f := .glo "counted") rfl)
  obtain ⟨fd_cover_sum, D_cover_sum⟩ := c.def_ 12 (d := d_cover_sum) rfl
  have D_cover_sum : FnP K "cover_sum" s_cover_sum (He.ga K "cover_sum") fd_cover_sum := D_cover_sum
  have gl_cover_sum : mg "cover_sum" = some (.ref (He.ga K "cover_sum")) := He.glo_ok X G (c.fact 12 (f := .glo "cover_sum") rfl)
  obtain ⟨fd_greatest_beside, D_greatest_beside⟩ := c.def_ 13 (d := d_greatest_beside) rfl
  have D_greatest_beside : FnP K "greatest_beside" s_greatest_beside (He.ga K "greatest_beside") fd_greatest_beside := D_greatest_beside
  have gl_greatest_beside : mg "greatest_beside" = some (.ref (He.ga K "greatest_beside")) := He.glo_ok X G (c.fact 13 (f := .glo "greatest_beside") rfl)
  obtain ⟨fd_load_of, D_load_of⟩ := c.def_ 14 (d := d_load_of) rfl
  have D_load_of : FnP K "load_of" s_load_of (He.ga K "load_of") fd_load_of := D_load_of
  have gl_load_of : mg "load_of" = some (.ref (He.ga K "load_of")) := He.glo_ok X G (c.fact 14 (f := .glo "load_of") rfl)
  obtain ⟨fd_loads_of, D_loads_of⟩ := c.def_ 15 (d := d_loads_of) rfl
  have D_loads_of : FnP K "loads_of" s_loads_of (He.ga K "loads_of") fd_loads_of := D_loads_of
  have gl_loads_of : mg "loads_of" = some (.ref (He.ga K "loads_of")) := He.glo_ok X G (c.fact 15 (f := .glo "loads_of") rfl)
  obtain ⟨fd_beside_paper, D_beside_paper⟩ := c.def_ 16 (d := d_beside_paper) rfl
  have D_beside_paper : FnP K "beside_paper" s_beside_paper (He.ga K "beside_paper") fd_beside_paper := D_beside_paper
  have gl_beside_paper : mg "beside_paper" = some (.ref (He.ga K "beside_paper")) := He.glo_ok X G (c.fact 16 (f := .glo "beside_paper") rfl)
  obtain ⟨fd_keeps_all, D_keeps_all⟩ := c.def_ 17 (d := d_keeps_all) rfl
  have D_keeps_all : FnP K "keeps_all" s_keeps_all (He.ga K "keeps_all") fd_keeps_all := D_keeps_all
  have gl_keeps_all : mg "keeps_all" = some (.ref (He.ga K "keeps_all")) := He.glo_ok X G (c.fact 17 (f := .glo "keeps_all") rfl)
  obtain ⟨fd_filled, D_filled⟩ := c.def_ 18 (d := d_filled) rfl
  have D_filled : FnP K "filled" s_filled (He.ga K "filled") fd_filled := D_filled
  have gl_filled : mg "filled" = some (.ref (He.ga K "filled")) := He.glo_ok X G (c.fact 18 (f := .glo "filled") rfl)
  obtain ⟨fd_lacking, D_lacking⟩ := c.def_ 19 (d := d_lacking) rfl
  have D_lacking : FnP K "lacking" s_lacking (He.ga K "lacking") fd_lacking := D_lacking
  have gl_lacking : mg "lacking" = some (.ref (He.ga K "lacking")) := He.glo_ok X G (c.fact 19 (f := .glo "lacking") rfl)
  obtain ⟨fd_is_covered, D_is_covered⟩ := c.def_ 20 (d := d_is_covered) rfl
  have D_is_covered : FnP K "is_covered" s_is_covered (He.ga K "is_covered") fd_is_covered := D_is_covered
  have gl_is_covered : mg "is_covered" = some (.ref (He.ga K "is_covered")) := He.glo_ok X G (c.fact 20 (f := .glo "is_covered") rfl)
  obtain ⟨fd_is_beside, D_is_beside⟩ := c.def_ 21 (d := d_is_beside) rfl
  have D_is_beside : FnP K "is_beside" s_is_beside (He.ga K "is_beside") fd_is_beside := D_is_beside
  have gl_is_beside : mg "is_beside" = some (.ref (He.ga K "is_beside")) := He.glo_ok X G (c.fact 21 (f := .glo "is_beside") rfl)
  obtain ⟨fd_full_cover, D_full_cover⟩ := c.def_ 22 (d := d_full_cover) rfl
  have D_full_cover : FnP K "full_cover" s_full_cover (He.ga K "full_cover") fd_full_cover := D_full_cover
  have gl_full_cover : mg "full_cover" = some (.ref (He.ga K "full_cover")) := He.glo_ok X G (c.fact 22 (f := .glo "full_cover") rfl)
  obtain ⟨fd_is_full_cover, D_is_full_cover⟩ := c.def_ 23 (d := d_is_full_cover) rfl
  have D_is_full_cover : FnP K "is_full_cover" s_is_full_cover (He.ga K "is_full_cover") fd_is_full_cover := D_is_full_cover
  have gl_is_full_cover : mg "is_full_cover" = some (.ref (He.ga K "is_full_cover")) := He.glo_ok X G (c.fact 23 (f := .glo "is_full_cover") rfl)
  obtain ⟨fd_loads, D_loads⟩ := c.def_ 24 (d := d_loads) rfl
  have D_loads : FnP K "loads" s_loads (He.ga K "loads") fd_loads := D_loads
  have gl_loads : mg "loads" = some (.ref (He.ga K "loads")) := He.glo_ok X G (c.fact 24 (f := .glo "loads") rfl)
  obtain ⟨fd_left_in, D_left_in⟩ := c.def_ 25 (d := d_left_in) rfl
  have D_left_in : FnP K "left_in" s_left_in (He.ga K "left_in") fd_left_in := D_left_in
  have gl_left_in : mg "left_in" = some (.ref (He.ga K "left_in")) := He.glo_ok X G (c.fact 25 (f := .glo "left_in") rfl)
  obtain ⟨fd_keeps, D_keeps⟩ := c.def_ 26 (d := d_keeps) rfl
  have D_keeps : FnP K "keeps" s_keeps (He.ga K "keeps") fd_keeps := D_keeps
  have gl_keeps : mg "keeps" = some (.ref (He.ga K "keeps")) := He.glo_ok X G (c.fact 26 (f := .glo "keeps") rfl)
  obtain ⟨fd_full_groups, D_full_groups⟩ := c.def_ 27 (d := d_full_groups) rfl
  have D_full_groups : FnP K "full_groups" s_full_groups (He.ga K "full_groups") fd_full_groups := D_full_groups
  have gl_full_groups : mg "full_groups" = some (.ref (He.ga K "full_groups")) := He.glo_ok X G (c.fact 27 (f := .glo "full_groups") rfl)
  obtain ⟨fd_is_shut, D_is_shut⟩ := c.def_ 28 (d := d_is_shut) rfl
  have D_is_shut : FnP K "is_shut" s_is_shut (He.ga K "is_shut") fd_is_shut := D_is_shut
  have gl_is_shut : mg "is_shut" = some (.ref (He.ga K "is_shut")) := He.glo_ok X G (c.fact 28 (f := .glo "is_shut") rfl)
  obtain ⟨fd_is_end, D_is_end⟩ := c.def_ 29 (d := d_is_end) rfl
  have D_is_end : FnP K "is_end" s_is_end (He.ga K "is_end") fd_is_end := D_is_end
  have gl_is_end : mg "is_end" = some (.ref (He.ga K "is_end")) := He.glo_ok X G (c.fact 29 (f := .glo "is_end") rfl)
  obtain ⟨fd_law_box, D_law_box⟩ := c.def_ 30 (d := d_law_box) rfl
  have D_law_box : FnP K "_law_box" s_law_box (He.ga K "_law_box") fd_law_box := D_law_box
  have gl_law_box : mg "_law_box" = some (.ref (He.ga K "_law_box")) := He.glo_ok X G (c.fact 30 (f := .glo "_law_box") rfl)
  obtain ⟨fd_law_take, D_law_take⟩ := c.def_ 31 (d := d_law_take) rfl
  have D_law_take : FnP K "_law_take" s_law_take (He.ga K "_law_take") fd_law_take := D_law_take
  have gl_law_take : mg "_law_take" = some (.ref (He.ga K "_law_take")) := He.glo_ok X G (c.fact 31 (f := .glo "_law_take") rfl)
  obtain ⟨fd_law_cells, D_law_cells⟩ := c.def_ 32 (d := d_law_cells) rfl
  have D_law_cells : FnP K "_law_cells" s_law_cells (He.ga K "_law_cells") fd_law_cells := D_law_cells
  have gl_law_cells : mg "_law_cells" = some (.ref (He.ga K "_law_cells")) := He.glo_ok X G (c.fact 32 (f := .glo "_law_cells") rfl)
  obtain ⟨fd_law_soft, D_law_soft⟩ := c.def_ 33 (d := d_law_soft) rfl
  have D_law_soft : FnP K "_law_soft" s_law_soft (He.ga K "_law_soft") fd_law_soft := D_law_soft
  have gl_law_soft : mg "_law_soft" = some (.ref (He.ga K "_law_soft")) := He.glo_ok X G (c.fact 33 (f := .glo "_law_soft") rfl)
  obtain ⟨fd_law_same, D_law_same⟩ := c.def_ 34 (d := d_law_same) rfl
  have D_law_same : FnP K "_law_same" s_law_same (He.ga K "_law_same") fd_law_same := D_law_same
  have gl_law_same : mg "_law_same" = some (.ref (He.ga K "_law_same")) := He.glo_ok X G (c.fact 34 (f := .glo "_law_same") rfl)
  obtain ⟨fd_law_rules, D_law_rules⟩ := c.def_ 35 (d := d_law_rules) rfl
  have D_law_rules : FnP K "_law_rules" s_law_rules (He.ga K "_law_rules") fd_law_rules := D_law_rules
  have gl_law_rules : mg "_law_rules" = some (.ref (He.ga K "_law_rules")) := He.glo_ok X G (c.fact 35 (f := .glo "_law_rules") rfl)
  obtain ⟨fd_law_numbers, D_law_numbers⟩ := c.def_ 36 (d := d_law_numbers) rfl
  have D_law_numbers : FnP K "_law_numbers" s_law_numbers (He.ga K "_law_numbers") fd_law_numbers := D_law_numbers
  have gl_law_numbers : mg "_law_numbers" = some (.ref (He.ga K "_law_numbers")) := He.glo_ok X G (c.fact 36 (f := .glo "_law_numbers") rfl)
  obtain ⟨fd_law_loads, D_law_loads⟩ := c.def_ 37 (d := d_law_loads) rfl
  have D_law_loads : FnP K "_law_loads" s_law_loads (He.ga K "_law_loads") fd_law_loads := D_law_loads
  have gl_law_loads : mg "_law_loads" = some (.ref (He.ga K "_law_loads")) := He.glo_ok X G (c.fact 37 (f := .glo "_law_loads") rfl)
  obtain ⟨fd_law_keeps, D_law_keeps⟩ := c.def_ 38 (d := d_law_keeps) rfl
  have D_law_keeps : FnP K "_law_keeps" s_law_keeps (He.ga K "_law_keeps") fd_law_keeps := D_law_keeps
  have gl_law_keeps : mg "_law_keeps" = some (.ref (He.ga K "_law_keeps")) := He.glo_ok X G (c.fact 38 (f := .glo "_law_keeps") rfl)
  obtain ⟨fd_law_full, D_law_full⟩ := c.def_ 39 (d := d_law_full) rfl
  have D_law_full : FnP K "_law_full" s_law_full (He.ga K "_law_full") fd_law_full := D_law_full
  have gl_law_full : mg "_law_full" = some (.ref (He.ga K "_law_full")) := He.glo_ok X G (c.fact 39 (f := .glo "_law_full") rfl)
  obtain ⟨fd_law_sets, D_law_sets⟩ := c.def_ 40 (d := d_law_sets) rfl
  have D_law_sets : FnP K "_law_sets" s_law_sets (He.ga K "_law_sets") fd_law_sets := D_law_sets
  have gl_law_sets : mg "_law_sets" = some (.ref (He.ga K "_law_sets")) := He.glo_ok X G (c.fact 40 (f := .glo "_law_sets") rfl)
  obtain ⟨fd_law_is_open, D_law_is_open⟩ := c.def_ 41 (d := d_law_is_open) rfl
  have D_law_is_open : FnP K "_law_is_open" s_law_is_open (He.ga K "_law_is_open") fd_law_is_open := D_law_is_open
  have gl_law_is_open : mg "_law_is_open" = some (.ref (He.ga K "_law_is_open")) := He.glo_ok X G (c.fact 41 (f := .glo "_law_is_open") rfl)
  obtain ⟨fd_law_cover, D_law_cover⟩ := c.def_ 42 (d := d_law_cover) rfl
  have D_law_cover : FnP K "_law_cover" s_law_cover (He.ga K "_law_cover") fd_law_cover := D_law_cover
  have gl_law_cover : mg "_law_cover" = some (.ref (He.ga K "_law_cover")) := He.glo_ok X G (c.fact 42 (f := .glo "_law_cover") rfl)
  obtain ⟨fd_law_is_cover, D_law_is_cover⟩ := c.def_ 43 (d := d_law_is_cover) rfl
  have D_law_is_cover : FnP K "_law_is_cover" s_law_is_cover (He.ga K "_law_is_cover") fd_law_is_cover := D_law_is_cover
  have gl_law_is_cover : mg "_law_is_cover" = some (.ref (He.ga K "_law_is_cover")) := He.glo_ok X G (c.fact 43 (f := .glo "_law_is_cover") rfl)
  obtain ⟨fd_law, D_law⟩ := c.def_ 44 (d := d_law) rfl
  have D_law : FnP K "law" s_law (He.ga K "law") fd_law := D_law
  have gl_law : mg "law" = some (.ref (He.ga K "law")) := He.glo_ok X G (c.fact 44 (f := .glo "law") rfl)
  have e := hfa.symm.trans gl_law
  cases e
  have b := FunD.bindsA (ps := ["script"]) D_law fun _ _ _ _ _ _ us hl => match us, hl with | [_], _ => rfl
  refine ⟨fd_law, fun s v => b s [v] rfl, fun base _ _ => ?_⟩
  have F_law_box : FnS Pr w K mg base "_law_box" 1 ["script", "k"] spBox := ⟨_, _, ok_law_box D_law_box m_int m_abs m_len, gl_law_box, D_law_box.kp, D_law_box.bindsN (fun _ _ _ _ _ _ us hl => match us, hl with | [_, _], _ => rfl)⟩
  have F_law_cells : FnS Pr w K mg base "_law_cells" 1 ["script", "many"] (spCells K) := ⟨_, _, ok_law_cells D_law_cells m_int m_list m_enumerate, gl_law_cells, D_law_cells.kp, D_law_cells.bindsN (fun _ _ _ _ _ _ us hl => match us, hl with | [_, _], _ => rfl)⟩
  have F_law_take : FnU Pr w K mg base "_law_take" 1 ["urn", "below"] 1 P_law_take := fn_u D_law_take (ok_law_take D_law_take m_int) gl_law_take (fun _ _ _ _ _ _ us hl => match us, hl with | [_, _], _ => rfl)
  have F_tupled : FnF Pr w K mg base "tupled" 7 ["value"] (P_tupled 6) := f_tupled D_tupled gl_tupled m_tuple m_list m_isinstance 6
  have F_law_soft : FnF Pr w K mg base "_law_soft" 7 ["matter"] (P_law_soft 6) := f_law_soft D_law_soft gl_law_soft m_tuple m_list m_isinstance 6
  have F_law_same : FnF Pr w K mg base "_law_same" 7 ["got", "due"] (P_law_same 6) := f_law_same D_law_same gl_law_same m_tuple m_list m_isinstance m_len m_all m_zip m_int m_bool m_str 6 (by decide)
  have F_law_rules : FnU Pr w K mg base "_law_rules" 2 ["urn"] 20 P_law_rules := fn_u D_law_rules (ok_law_rules D_law_rules m_range m_tuple m_sorted F_law_take) gl_law_rules (fun _ _ _ _ _ _ us hl => match us, hl with | [_], _ => rfl)
  have F_law_numbers : FnU Pr w K mg base "_law_numbers" 2 ["urn", "many", "below"] 16 P_law_numbers := fn_u D_law_numbers (ok_law_numbers D_law_numbers m_range m_tuple F_law_take) gl_law_numbers (fun _ _ _ _ _ _ us hl => match us, hl with | [_, _, _], _ => rfl)
  have F_is_number : FnF Pr w K mg base "is_number" 1 ["value"] P_is_number := fn_f D_is_number (ok_is_number D_is_number m_bool m_int m_isinstance) gl_is_number (fun _ _ _ _ _ _ us hl => match us, hl with | [_], _ => rfl)
  have F_is_rising : FnF Pr w K mg base "is_rising" 1 ["row"] P_is_rising := fn_f D_is_rising (ok_is_rising D_is_rising m_all m_zip) gl_is_rising (fun _ _ _ _ _ _ us hl => match us, hl with | [_], _ => rfl)
  have F_are_numbers : FnF Pr w K mg base "are_numbers" 2 ["thing", "many"] P_are_numbers := fn_f D_are_numbers (ok_are_numbers D_are_numbers m_all m_isinstance m_len m_tuple F_is_number) gl_are_numbers (fun _ _ _ _ _ _ us hl => match us, hl with | [_, _], _ => rfl)
  have F_is_limits : FnF Pr w K mg base "is_limits" 3 ["rules", "thing"] P_is_limits := fn_f D_is_limits (ok_is_limits D_is_limits m_len F_are_numbers) gl_is_limits (fun _ _ _ _ _ _ us hl => match us, hl with | [_, _], _ => rfl)
  have F_is_demands : FnF Pr w K mg base "is_demands" 3 ["rules", "thing"] P_is_demands := fn_f D_is_demands (ok_is_demands D_is_demands m_len F_are_numbers) gl_is_demands (fun _ _ _ _ _ _ us hl => match us, hl with | [_, _], _ => rfl)
  have F_own_kinds : FnF Pr w K mg base "own_kinds" 8 ["groups"] P_own_kinds := fn_f D_own_kinds (ok_own_kinds D_own_kinds m_tuple F_tupled) gl_own_kinds (fun _ _ _ _ _ _ us hl => match us, hl with | [_], _ => rfl)
  have F_is_group_set : FnF Pr w K mg base "is_group_set" 8 ["rules", "thing"] P_is_group_set := fn_f D_is_group_set (ok_is_group_set D_is_group_set m_all m_isinstance m_tuple F_is_rising F_tupled) gl_is_group_set (fun _ _ _ _ _ _ us hl => match us, hl with | [_, _], _ => rfl)
  have F_is_open : FnF Pr w K mg base "is_open" 9 ["rules", "thing"] P_is_open := fn_f D_is_open (ok_is_open D_is_open m_all m_len F_is_group_set F_own_kinds) gl_is_open (fun _ _ _ _ _ _ us hl => match us, hl with | [_, _], _ => rfl)
  have F_open_sets : FnF Pr w K mg base "open_sets" 9 ["groups"] P_open_sets := fn_f D_open_sets (ok_open_sets D_open_sets m_all m_len F_own_kinds) gl_open_sets (fun _ _ _ _ _ _ us hl => match us, hl with | [_], _ => rfl)
  have F_all_open : FnF Pr w K mg base "all_open" 10 ["rules"] P_all_open := fn_f D_all_open (ok_all_open D_all_open m_sorted F_open_sets F_tupled) gl_all_open (fun _ _ _ _ _ _ us hl => match us, hl with | [_], _ => rfl)
  have F_counted : FnF Pr w K mg base "counted" 1 ["rules", "groups"] P_counted := fn_f D_counted (ok_counted D_counted m_int m_max m_sum m_tuple) gl_counted (fun _ _ _ _ _ _ us hl => match us, hl with | [_, _], _ => rfl)
  have F_cover_sum : FnF Pr w K mg base "cover_sum" 2 ["rules", "lot", "groups"] P_cover_sum := fn_f D_cover_sum (ok_cover_sum D_cover_sum m_sum m_zip F_counted) gl_cover_sum (fun _ _ _ _ _ _ us hl => match us, hl with | [_, _, _], _ => rfl)
  have F_greatest_beside : FnF Pr w K mg base "greatest_beside" 11 ["rules", "lot"] P_greatest_beside := fn_f D_greatest_beside (ok_greatest_beside D_greatest_beside m_max F_all_open F_cover_sum) gl_greatest_beside (fun _ _ _ _ _ _ us hl => match us, hl with | [_, _], _ => rfl)
  have F_load_of : FnF Pr w K mg base "load_of" 1 ["rules", "lot", "group"] P_load_of := fn_f D_load_of (ok_load_of D_load_of m_sum m_zip) gl_load_of (fun _ _ _ _ _ _ us hl => match us, hl with | [_, _, _], _ => rfl)
  have F_loads_of : FnF Pr w K mg base "loads_of" 8 ["rules", "lot"] P_loads_of := fn_f D_loads_of (ok_loads_of D_loads_of F_load_of F_tupled) gl_loads_of (fun _ _ _ _ _ _ us hl => match us, hl with | [_, _], _ => rfl)
  have F_beside_paper : FnF Pr w K mg base "beside_paper" 12 ["rules", "lot"] P_beside_paper := fn_f D_beside_paper (ok_beside_paper D_beside_paper m_list m_tuple m_zip F_all_open F_cover_sum F_greatest_beside F_load_of F_loads_of F_own_kinds F_tupled) gl_beside_paper (fun _ _ _ _ _ _ us hl => match us, hl with | [_, _], _ => rfl)
  have F_keeps_all : FnF Pr w K mg base "keeps_all" 9 ["rules", "limits", "lot"] P_keeps_all := fn_f D_keeps_all (ok_keeps_all D_keeps_all m_all m_zip F_loads_of) gl_keeps_all (fun _ _ _ _ _ _ us hl => match us, hl with | [_, _, _], _ => rfl)
  have F_filled : FnF Pr w K mg base "filled" 9 ["rules", "limits", "lot"] P_filled := fn_f D_filled (ok_filled D_filled m_zip F_loads_of F_tupled) gl_filled (fun _ _ _ _ _ _ us hl => match us, hl with | [_, _, _], _ => rfl)
  have F_lacking : FnF Pr w K mg base "lacking" 1 ["rules", "lot", "other"] P_lacking := fn_f D_lacking (ok_lacking D_lacking m_zip) gl_lacking (fun _ _ _ _ _ _ us hl => match us, hl with | [_, _, _], _ => rfl)
  have F_is_covered : FnF Pr w K mg base "is_covered" 1 ["groups", "names"] P_is_covered := fn_f D_is_covered (ok_is_covered D_is_covered m_all m_any) gl_is_covered (fun _ _ _ _ _ _ us hl => match us, hl with | [_, _], _ => rfl)
  have F_is_beside : FnF Pr w K mg base "is_beside" 12 ["rules", "lot", "thing"] (fun ds d => P_is_beside ds d ∨ P_is_beside_list ds d) := fn_f D_is_beside (fnOk_or (ok_is_beside D_is_beside m_isinstance m_len m_sum m_tuple g_PAIR F_filled F_greatest_beside F_is_covered F_is_demands F_is_limits F_keeps_all F_lacking) (FnOk.mono (ok_is_beside_list D_is_beside m_isinstance m_tuple) (by decide))) gl_is_beside (fun _ _ _ _ _ _ us hl => match us, hl with | [_, _, _], _ => rfl)
  have F_full_cover : FnF Pr w K mg base "full_cover" 10 ["rules", "limits", "lot", "other"] P_full_cover := fn_f D_full_cover (ok_full_cover D_full_cover m_list m_tuple F_filled F_is_covered F_lacking) gl_full_cover (fun _ _ _ _ _ _ us hl => match us, hl with | [_, _, _, _], _ => rfl)
  have F_is_full_cover : FnF Pr w K mg base "is_full_cover" 10 ["rules", "limits", "lot", "other", "thing"] P_is_full_cover := fn_f D_is_full_cover (ok_is_full_cover D_is_full_cover m_all F_filled F_is_covered F_is_open F_lacking) gl_is_full_cover (fun _ _ _ _ _ _ us hl => match us, hl with | [_, _, _, _, _], _ => rfl)
  have F_loads : FnF Pr w K mg base "loads" 8 ["rules", "lot"] P_loads := fn_f D_loads (ok_loads D_loads m_dict m_sum m_tuple m_zip F_tupled) gl_loads (fun _ _ _ _ _ _ us hl => match us, hl with | [_, _], _ => rfl)
  have F_left_in : FnF Pr w K mg base "left_in" 9 ["rules", "limits", "lot"] P_left_in := fn_f D_left_in (ok_left_in D_left_in m_tuple m_zip F_loads) gl_left_in (fun _ _ _ _ _ _ us hl => match us, hl with | [_, _, _], _ => rfl)
  have F_keeps : FnF Pr w K mg base "keeps" 10 ["rules", "limits", "lot"] P_keeps := fn_f D_keeps (ok_keeps D_keeps m_all F_left_in) gl_keeps (fun _ _ _ _ _ _ us hl => match us, hl with | [_, _, _], _ => rfl)
  have F_full_groups : FnF Pr w K mg base "full_groups" 10 ["rules", "limits", "lot"] P_full_groups := fn_f D_full_groups (ok_full_groups D_full_groups m_tuple m_zip F_left_in F_tupled) gl_full_groups (fun _ _ _ _ _ _ us hl => match us, hl with | [_, _, _], _ => rfl)
  have F_is_shut : FnF Pr w K mg base "is_shut" 11 ["rules", "limits", "demands", "lot"] P_is_shut := fn_f D_is_shut (ok_is_shut D_is_shut m_all m_any m_zip F_full_groups) gl_is_shut (fun _ _ _ _ _ _ us hl => match us, hl with | [_, _, _, _], _ => rfl)
  have F_is_end : FnF Pr w K mg base "is_end" 12 ["rules", "limits", "demands", "thing"] P_is_end := fn_f D_is_end (ok_is_end D_is_end m_any m_zip F_is_demands F_is_shut F_keeps) gl_is_end (fun _ _ _ _ _ _ us hl => match us, hl with | [_, _, _, _], _ => rfl)
  have F_law_loads : FnF Pr w K mg base "_law_loads" 1 ["rules", "lot"] P_law_loads := fn_f D_law_loads (ok_law_loads D_law_loads m_sum m_tuple m_zip) gl_law_loads (fun _ _ _ _ _ _ us hl => match us, hl with | [_, _], _ => rfl)
  have F_law_keeps : FnF Pr w K mg base "_law_keeps" 2 ["rules", "limits", "lot"] P_law_keeps := fn_f D_law_keeps (ok_law_keeps D_law_keeps m_zip F_law_loads) gl_law_keeps (fun _ _ _ _ _ _ us hl => match us, hl with | [_, _, _], _ => rfl)
  have F_law_full : FnF Pr w K mg base "_law_full" 2 ["rules", "limits", "lot"] P_law_full := fn_f D_law_full (ok_law_full D_law_full m_tuple m_zip F_law_loads) gl_law_full (fun _ _ _ _ _ _ us hl => match us, hl with | [_, _, _], _ => rfl)
  have F_law_sets : FnF Pr w K mg base "_law_sets" 1 ["things"] P_law_sets := fn_f D_law_sets (ok_law_sets D_law_sets m_sorted) gl_law_sets (fun _ _ _ _ _ _ us hl => match us, hl with | [_], _ => rfl)
  have F_law_is_open : FnF Pr w K mg base "_law_is_open" 1 ["groups"] P_law_is_open := fn_f D_law_is_open (ok_law_is_open D_law_is_open m_enumerate) gl_law_is_open (fun _ _ _ _ _ _ us hl => match us, hl with | [_], _ => rfl)
  have F_law_cover : FnF Pr w K mg base "_law_cover" 1 ["rules", "lot", "groups"] P_law_cover := fn_f D_law_cover (ok_law_cover D_law_cover m_len m_max m_sum m_zip) gl_law_cover (fun _ _ _ _ _ _ us hl => match us, hl with | [_, _, _], _ => rfl)
  have F_law_is_cover : FnF Pr w K mg base "_law_is_cover" 3 ["rules", "limits", "lot", "other", "groups"] P_law_is_cover := fn_f D_law_is_cover (ok_law_is_cover D_law_is_cover m_zip F_law_full F_law_is_open) gl_law_is_cover (fun _ _ _ _ _ _ us hl => match us, hl with | [_, _, _, _, _], _ => rfl)
  exact ok_law D_law F_law_box F_law_cells F_law_take F_law_rules F_law_numbers F_law_soft F_law_same m_len m_max m_range m_sum m_tuple m_zip F_law_cover F_law_full F_law_is_cover F_law_is_open F_law_keeps F_law_loads F_law_sets F_all_open F_beside_paper F_counted F_cover_sum F_full_cover F_full_groups F_greatest_beside F_is_beside F_is_end F_is_full_cover F_is_open F_keeps F_loads F_own_kinds
end K
open PySem PySem.W PySem.Calls PyProof.Rows
theorem PySem.Challenge.cw_crosslimits_k77_across_covers_open_group_holds : PySem.Challenge.rw_crosslimits_k77_across_covers_open_group.Holds := by
  w_on; o_law
  refine HandSHeadRun.head_any (r := OpenLaw.row PySem.Challenge.rw_crosslimits_k77_across_covers_open_group) (q := view (OpenLaw.row PySem.Challenge.rw_crosslimits_k77_across_covers_open_group).prog [52]) (H := K.hk) (ob := K.ob) (M := 3000) (loose := K.loose) (d := HandSHeadRun.topDef (OpenLaw.row PySem.Challenge.rw_crosslimits_k77_across_covers_open_group).prog 52) (kwd := []) K.ob_eq
    (by kernel_rfl) (fun s => by kernel_rfl) K.run (by kernel_rfl) (by kernel_rfl) (by kernel_rfl) (by rfl) (by first | assumption | decide +kernel) (by decide +kernel) ⟨rfl, rfl, rfl, rfl, rfl, by decide +kernel⟩ ?hw ?hc
  case hw => w_witness2
  case hc =>
    refine L2.walk_ofE (l := PySem.Challenge.rw_crosslimits_k77_across_covers_open_group) (n := 63) (k := 13) (x := "script") (CX := L2.CX0) rfl (by decide) (by kernel_rfl) ⟨rfl, by decide, by decide⟩ ?F (fun _ _ _ _ z => z)
    intro w mg fa h Y G hmg0
    obtain ⟨Kf, KX, c⟩ := Y
    have hmg : mg ("law" : PySem.Str) = some (.ref fa) := by
      have e : (HandSHeadRun.topDef (OpenLaw.row PySem.Challenge.rw_crosslimits_k77_across_covers_open_group).prog 52).name = ("law" : PySem.Str) := by kernel_rfl
      rw [← e]
      exact hmg0
    obtain ⟨fd, hb, hF⟩ := _root_.K.facts (Pr := (PySem.Challenge.rw_crosslimits_k77_across_covers_open_group).prog) (w := w) KX G hmg c
    exact ⟨Kf, fd, DL.spLaw Kf, KX, hb, fun H a ns hl _ hS => ⟨a, ns, rfl, hS, hl, fun _ => rfl⟩, hF⟩
