import PyProof.Rows.All
import Wide.All
import OpenK.AllK
import Wide.FinOn
import Lean
import PySem.Challenge.RW_nm0011_01
set_option Elab.async false
set_option maxRecDepth 100000
set_option maxHeartbeats 0
set_option linter.all false
open PySem PySem.W PyProof.Rows
namespace Mine
section
theorem room {a b d N : Nat} (h : d + a < N) (hb : Nat.ble b a = true) : d + b < N := Nat.lt_of_le_of_lt (Nat.add_le_add_left (Nat.le_of_ble_eq_true hb) d) h
theorem room2 {a b c d N : Nat} (h : d + a < N) (hb : Nat.ble (b + c) a = true) : d + b + c < N := Nat.add_assoc d b c ▸ room h hb
theorem room3 {a b c e d N : Nat} (h : d + a < N) (hb : Nat.ble (b + c + e) a = true) : d + b + c + e < N := by rw [Nat.add_assoc d b c];exact room2 h hb
theorem room0 {a d N : Nat} (h : d + a < N) : d < N := Nat.lt_of_le_of_lt (Nat.le_add_right d a) h
theorem nle1 {a b : Nat} {r : Prop} (h : a < b ∧ r) : b ≠ a := Nat.ne_of_gt h.1
theorem nle2 {a b : Nat} {p r : Prop} (h : p ∧ a < b ∧ r) : b ≠ a := nle1 h.2
theorem nle3 {a b : Nat} {p q r : Prop} (h : q ∧ p ∧ a < b ∧ r) : b ≠ a := nle2 h.2
theorem nle4 {a b : Nat} {p q o r : Prop} (h : o ∧ q ∧ p ∧ a < b ∧ r) : b ≠ a := nle3 h.2
theorem nle5 {a b : Nat} {p q o n r : Prop} (h : n ∧ o ∧ q ∧ p ∧ a < b ∧ r) : b ≠ a := nle4 h.2
theorem nle6 {a b : Nat} {p q o n m r : Prop} (h : m ∧ n ∧ o ∧ q ∧ p ∧ a < b ∧ r) : b ≠ a := nle5 h.2
theorem nll2 {a b : Nat} {p : Prop} (h : p ∧ a < b) : b ≠ a := Nat.ne_of_gt h.2
theorem nll3 {a b : Nat} {p q : Prop} (h : p ∧ q ∧ a < b) : b ≠ a := nll2 h.2
theorem nll4 {a b : Nat} {p q o : Prop} (h : p ∧ q ∧ o ∧ a < b) : b ≠ a := nll3 h.2
theorem sz0 {α : Type} : ([] : List α).length ≤ PySem.sizeLine := Nat.zero_le _
theorem sz1 {α : Type} {a : α} : [a].length ≤ PySem.sizeLine := Nat.le_of_ble_eq_true rfl
theorem sz2 {α : Type} {a b : α} : [a,b].length ≤ PySem.sizeLine := Nat.le_of_ble_eq_true rfl
theorem sz3 {α : Type} {a b c : α} : [a,b,c].length ≤ PySem.sizeLine := Nat.le_of_ble_eq_true rfl
theorem sbr {α : Type} {l : List α} : ∀ p ∈ l,p ∈ l := fun _ h=>h
theorem sbs {α : Type} {l m : List α} {a : α} (h : ∀ p ∈ l,p ∈ m) : ∀ p ∈ l,p ∈ a :: m := fun p q=>.tail _ (h p q)
theorem sba {α : Type} {l m : List α} {a : α} (x : a ∈ m) (h : ∀ p ∈ l,p ∈ m) : ∀ p ∈ a :: l,p ∈ m := fun p q=>by
  cases q with
  | head=>exact x
  | tail _ q=>exact h p q
theorem sbk {α : Type} {l m : List α} {a : α} (h : ∀ p ∈ l,p ∈ m) : ∀ p ∈ a :: l,p ∈ a :: m := sba List.mem_cons_self (sbs h)
end
section
open PySem.Calls
noncomputable section
noncomputable abbrev pr : Program := PySem.Challenge.rw_nm0011_01.row.toRowW.prog
noncomputable def stAt (n : Nat) : Option Stmt := (pr.main.body.drop n).head?
section
variable {n : Str} {a : Arguments} {b : List Stmt} {ds : List Expr} {rt : Option Expr} {tp : List TypeParam} {sc : Scope} {ts : Option Scope} {bi : Str} {po : Pos}
noncomputable def Kb (b : List Stmt) : Prop := True
noncomputable def Kc (n : Str) (a : Arguments) (b : List Stmt) (sc : Scope) : Prop := True
noncomputable def Ks (n : Str) (a : Arguments) (b : List Stmt) (ds : List Expr) (rt : Option Expr) (tp : List TypeParam) (sc : Scope) (ts : Option Scope) (bi : Str) (po : Pos) : Prop := True
noncomputable def Kt (s : Stmt) : Prop := True
noncomputable def Kp (sc : Scope) (fa : Bool) (file : Str) (more : List (Str × Const)) (ms : List (Str × Bool × Module)) (ps : List Parse) (ab : List Str) (hv : List Parse) (gi : Given) : Prop := True
@[reducible] noncomputable def sureB (i : Nat) (_ : stAt i = some (.FunctionDef n a b ds rt tp sc ts bi po)) : Prop := Kb b
@[reducible] noncomputable def sureC (i : Nat) (b : List Stmt) (_ : stAt i = some (.FunctionDef n a b ds rt tp sc ts bi po)) : Prop := Kc n a b sc
@[reducible] noncomputable def sureS (i : Nat) (b : List Stmt) (_ : stAt i = some (.FunctionDef n a b ds rt tp sc ts bi po)) : Prop := Ks n a b ds rt tp sc ts bi po
@[reducible] noncomputable def sureT (i : Nat) {s : Stmt} (_ : stAt i = some s) : Prop := Kt s
@[reducible] noncomputable def useB (b : List Stmt) (_ : Kb b) : List Stmt := b
@[reducible] noncomputable def useS (n : Str) (a : Arguments) (b : List Stmt) (ds : List Expr) (rt : Option Expr) (tp : List TypeParam) (sc : Scope) (ts : Option Scope) (bi : Str) (po : Pos) (_ : Ks n a b ds rt tp sc ts bi po) : Stmt := .FunctionDef n a b ds rt tp sc ts bi po
@[reducible] noncomputable def useT (s : Stmt) (_ : Kt s) : Stmt := s
@[reducible] noncomputable def useC (n : Str) (a : Arguments) (b : List Stmt) (sc : Scope) (_ : Kc n a b sc) : Obj := ⟨.none,none,.func ⟨n,n,a,.stmts b,sc,0,[],.none,.none,.none,.none,none,.none,.none,0⟩,List.toArray []⟩
@[reducible] noncomputable def useF (n : Str) (a : Arguments) (b : List Stmt) (sc : Scope) (_ : Kc n a b sc) (pm cd : Value) : Obj := ⟨.type "function",none,.func ⟨n,n,a,.stmts b,sc,3,[],.none,.none,.none,pm,none,cd,.none,0⟩,List.toArray []⟩
@[reducible] noncomputable def useP (body : List Stmt) (sc : Scope) (fa : Bool) (file : Str) (more : List (Str × Const)) (ms : List (Str × Bool × Module)) (ps : List Parse) (ab : List Str) (hv : List Parse) (gi : Given) (_ : Kp sc fa file more ms ps ab hv gi) : Program := ⟨⟨body,sc,fa,file,more⟩,ms,ps,ab,hv,gi⟩
@[reducible] noncomputable def sureP (body : List Stmt) {sc : Scope} {fa : Bool} {file : Str} {more : List (Str × Const)} {ms : List (Str × Bool × Module)} {ps : List Parse} {ab : List Str} {hv : List Parse} {gi : Given} (_ : pr = ⟨⟨body,sc,fa,file,more⟩,ms,ps,ab,hv,gi⟩) : Prop := Kp sc fa file more ms ps ab hv gi
end
@[reducible] noncomputable def S0 : Stmt := useT _ (by show sureT 0 rfl;trivial)
@[reducible] noncomputable def S1 : Stmt := useT _ (by show sureT 1 rfl;trivial)
@[reducible] noncomputable def S2 : Stmt := useT _ (by show sureT 2 rfl;trivial)
@[reducible] noncomputable def S3 : Stmt := useT _ (by show sureT 3 rfl;trivial)
@[reducible] noncomputable def S4 : Stmt := useT _ (by show sureT 4 rfl;trivial)
@[reducible] noncomputable def S5 : Stmt := useT _ (by show sureT 5 rfl;trivial)
@[reducible] noncomputable def S6 : Stmt := useT _ (by show sureT 6 rfl;trivial)
@[reducible] noncomputable def S7 : Stmt := useT _ (by show sureT 7 rfl;trivial)
@[reducible] noncomputable def S8 : Stmt := useT _ (by show sureT 8 rfl;trivial)
@[reducible] noncomputable def S9 : Stmt := useT _ (by show sureT 9 rfl;trivial)
@[reducible] noncomputable def S10 : Stmt := useT _ (by show sureT 10 rfl;trivial)
@[reducible] noncomputable def S11 : Stmt := useT _ (by show sureT 11 rfl;trivial)
@[reducible] noncomputable def S12 : Stmt := useT _ (by show sureT 12 rfl;trivial)
@[reducible] noncomputable def b13 : List Stmt := useB _ (by show sureB 13 rfl;trivial)
@[reducible] noncomputable def S13 : Stmt := useS _ _ b13 _ _ _ _ _ _ _ (by show sureS 13 b13 rfl;trivial)
@[reducible] noncomputable def C13 : Obj := useC _ _ b13 _ (by show sureC 13 b13 rfl;trivial)
@[reducible] noncomputable def F13 (pm cd : Value) : Obj := useF _ _ b13 _ (by show sureC 13 b13 rfl;trivial) pm cd
@[reducible] noncomputable def b14 : List Stmt := useB _ (by show sureB 14 rfl;trivial)
@[reducible] noncomputable def S14 : Stmt := useS _ _ b14 _ _ _ _ _ _ _ (by show sureS 14 b14 rfl;trivial)
@[reducible] noncomputable def C14 : Obj := useC _ _ b14 _ (by show sureC 14 b14 rfl;trivial)
@[reducible] noncomputable def F14 (pm cd : Value) : Obj := useF _ _ b14 _ (by show sureC 14 b14 rfl;trivial) pm cd
@[reducible] noncomputable def b15 : List Stmt := useB _ (by show sureB 15 rfl;trivial)
@[reducible] noncomputable def S15 : Stmt := useS _ _ b15 _ _ _ _ _ _ _ (by show sureS 15 b15 rfl;trivial)
@[reducible] noncomputable def C15 : Obj := useC _ _ b15 _ (by show sureC 15 b15 rfl;trivial)
@[reducible] noncomputable def F15 (pm cd : Value) : Obj := useF _ _ b15 _ (by show sureC 15 b15 rfl;trivial) pm cd
@[reducible] noncomputable def S16 : Stmt := useT _ (by show sureT 16 rfl;trivial)
@[reducible] noncomputable def b17 : List Stmt := useB _ (by show sureB 17 rfl;trivial)
@[reducible] noncomputable def S17 : Stmt := useS _ _ b17 _ _ _ _ _ _ _ (by show sureS 17 b17 rfl;trivial)
@[reducible] noncomputable def C17 : Obj := useC _ _ b17 _ (by show sureC 17 b17 rfl;trivial)
@[reducible] noncomputable def F17 (pm cd : Value) : Obj := useF _ _ b17 _ (by show sureC 17 b17 rfl;trivial) pm cd
@[reducible] noncomputable def b18 : List Stmt := useB _ (by show sureB 18 rfl;trivial)
@[reducible] noncomputable def S18 : Stmt := useS _ _ b18 _ _ _ _ _ _ _ (by show sureS 18 b18 rfl;trivial)
@[reducible] noncomputable def C18 : Obj := useC _ _ b18 _ (by show sureC 18 b18 rfl;trivial)
@[reducible] noncomputable def F18 (pm cd : Value) : Obj := useF _ _ b18 _ (by show sureC 18 b18 rfl;trivial) pm cd
@[reducible] noncomputable def S19 : Stmt := useT _ (by show sureT 19 rfl;trivial)
@[reducible] noncomputable def S20 : Stmt := useT _ (by show sureT 20 rfl;trivial)
@[reducible] noncomputable def S21 : Stmt := useT _ (by show sureT 21 rfl;trivial)
@[reducible] noncomputable def b22 : List Stmt := useB _ (by show sureB 22 rfl;trivial)
@[reducible] noncomputable def S22 : Stmt := useS _ _ b22 _ _ _ _ _ _ _ (by show sureS 22 b22 rfl;trivial)
@[reducible] noncomputable def C22 : Obj := useC _ _ b22 _ (by show sureC 22 b22 rfl;trivial)
@[reducible] noncomputable def F22 (pm cd : Value) : Obj := useF _ _ b22 _ (by show sureC 22 b22 rfl;trivial) pm cd
@[reducible] noncomputable def b23 : List Stmt := useB _ (by show sureB 23 rfl;trivial)
@[reducible] noncomputable def S23 : Stmt := useS _ _ b23 _ _ _ _ _ _ _ (by show sureS 23 b23 rfl;trivial)
@[reducible] noncomputable def C23 : Obj := useC _ _ b23 _ (by show sureC 23 b23 rfl;trivial)
@[reducible] noncomputable def F23 (pm cd : Value) : Obj := useF _ _ b23 _ (by show sureC 23 b23 rfl;trivial) pm cd
@[reducible] noncomputable def b24 : List Stmt := useB _ (by show sureB 24 rfl;trivial)
@[reducible] noncomputable def S24 : Stmt := useS _ _ b24 _ _ _ _ _ _ _ (by show sureS 24 b24 rfl;trivial)
@[reducible] noncomputable def C24 : Obj := useC _ _ b24 _ (by show sureC 24 b24 rfl;trivial)
@[reducible] noncomputable def F24 (pm cd : Value) : Obj := useF _ _ b24 _ (by show sureC 24 b24 rfl;trivial) pm cd
@[reducible] noncomputable def b25 : List Stmt := useB _ (by show sureB 25 rfl;trivial)
@[reducible] noncomputable def S25 : Stmt := useS _ _ b25 _ _ _ _ _ _ _ (by show sureS 25 b25 rfl;trivial)
@[reducible] noncomputable def C25 : Obj := useC _ _ b25 _ (by show sureC 25 b25 rfl;trivial)
@[reducible] noncomputable def F25 (pm cd : Value) : Obj := useF _ _ b25 _ (by show sureC 25 b25 rfl;trivial) pm cd
@[reducible] noncomputable def b26 : List Stmt := useB _ (by show sureB 26 rfl;trivial)
@[reducible] noncomputable def S26 : Stmt := useS _ _ b26 _ _ _ _ _ _ _ (by show sureS 26 b26 rfl;trivial)
@[reducible] noncomputable def C26 : Obj := useC _ _ b26 _ (by show sureC 26 b26 rfl;trivial)
@[reducible] noncomputable def F26 (pm cd : Value) : Obj := useF _ _ b26 _ (by show sureC 26 b26 rfl;trivial) pm cd
@[reducible] noncomputable def b27 : List Stmt := useB _ (by show sureB 27 rfl;trivial)
@[reducible] noncomputable def S27 : Stmt := useS _ _ b27 _ _ _ _ _ _ _ (by show sureS 27 b27 rfl;trivial)
@[reducible] noncomputable def C27 : Obj := useC _ _ b27 _ (by show sureC 27 b27 rfl;trivial)
@[reducible] noncomputable def F27 (pm cd : Value) : Obj := useF _ _ b27 _ (by show sureC 27 b27 rfl;trivial) pm cd
@[reducible] noncomputable def b28 : List Stmt := useB _ (by show sureB 28 rfl;trivial)
@[reducible] noncomputable def S28 : Stmt := useS _ _ b28 _ _ _ _ _ _ _ (by show sureS 28 b28 rfl;trivial)
@[reducible] noncomputable def C28 : Obj := useC _ _ b28 _ (by show sureC 28 b28 rfl;trivial)
@[reducible] noncomputable def F28 (pm cd : Value) : Obj := useF _ _ b28 _ (by show sureC 28 b28 rfl;trivial) pm cd
@[reducible] noncomputable def b29 : List Stmt := useB _ (by show sureB 29 rfl;trivial)
@[reducible] noncomputable def S29 : Stmt := useS _ _ b29 _ _ _ _ _ _ _ (by show sureS 29 b29 rfl;trivial)
@[reducible] noncomputable def C29 : Obj := useC _ _ b29 _ (by show sureC 29 b29 rfl;trivial)
@[reducible] noncomputable def F29 (pm cd : Value) : Obj := useF _ _ b29 _ (by show sureC 29 b29 rfl;trivial) pm cd
@[reducible] noncomputable def b30 : List Stmt := useB _ (by show sureB 30 rfl;trivial)
@[reducible] noncomputable def S30 : Stmt := useS _ _ b30 _ _ _ _ _ _ _ (by show sureS 30 b30 rfl;trivial)
@[reducible] noncomputable def C30 : Obj := useC _ _ b30 _ (by show sureC 30 b30 rfl;trivial)
@[reducible] noncomputable def F30 (pm cd : Value) : Obj := useF _ _ b30 _ (by show sureC 30 b30 rfl;trivial) pm cd
@[reducible] noncomputable def b31 : List Stmt := useB _ (by show sureB 31 rfl;trivial)
@[reducible] noncomputable def S31 : Stmt := useS _ _ b31 _ _ _ _ _ _ _ (by show sureS 31 b31 rfl;trivial)
@[reducible] noncomputable def C31 : Obj := useC _ _ b31 _ (by show sureC 31 b31 rfl;trivial)
@[reducible] noncomputable def F31 (pm cd : Value) : Obj := useF _ _ b31 _ (by show sureC 31 b31 rfl;trivial) pm cd
@[reducible] noncomputable def b32 : List Stmt := useB _ (by show sureB 32 rfl;trivial)
@[reducible] noncomputable def S32 : Stmt := useS _ _ b32 _ _ _ _ _ _ _ (by show sureS 32 b32 rfl;trivial)
@[reducible] noncomputable def C32 : Obj := useC _ _ b32 _ (by show sureC 32 b32 rfl;trivial)
@[reducible] noncomputable def F32 (pm cd : Value) : Obj := useF _ _ b32 _ (by show sureC 32 b32 rfl;trivial) pm cd
@[reducible] noncomputable def b33 : List Stmt := useB _ (by show sureB 33 rfl;trivial)
@[reducible] noncomputable def S33 : Stmt := useS _ _ b33 _ _ _ _ _ _ _ (by show sureS 33 b33 rfl;trivial)
@[reducible] noncomputable def C33 : Obj := useC _ _ b33 _ (by show sureC 33 b33 rfl;trivial)
@[reducible] noncomputable def F33 (pm cd : Value) : Obj := useF _ _ b33 _ (by show sureC 33 b33 rfl;trivial) pm cd
@[reducible] noncomputable def S34 : Stmt := useT _ (by show sureT 34 rfl;trivial)
@[reducible] noncomputable def S35 : Stmt := useT _ (by show sureT 35 rfl;trivial)
@[reducible] noncomputable def S36 : Stmt := useT _ (by show sureT 36 rfl;trivial)
@[reducible] noncomputable def S37 : Stmt := useT _ (by show sureT 37 rfl;trivial)
@[reducible] noncomputable def S38 : Stmt := useT _ (by show sureT 38 rfl;trivial)
@[reducible] noncomputable def S39 : Stmt := useT _ (by show sureT 39 rfl;trivial)
@[reducible] noncomputable def S40 : Stmt := useT _ (by show sureT 40 rfl;trivial)
@[reducible] noncomputable def S41 : Stmt := useT _ (by show sureT 41 rfl;trivial)
@[reducible] noncomputable def b42 : List Stmt := useB _ (by show sureB 42 rfl;trivial)
@[reducible] noncomputable def S42 : Stmt := useS _ _ b42 _ _ _ _ _ _ _ (by show sureS 42 b42 rfl;trivial)
@[reducible] noncomputable def C42 : Obj := useC _ _ b42 _ (by show sureC 42 b42 rfl;trivial)
@[reducible] noncomputable def F42 (pm cd : Value) : Obj := useF _ _ b42 _ (by show sureC 42 b42 rfl;trivial) pm cd
@[reducible] noncomputable def b43 : List Stmt := useB _ (by show sureB 43 rfl;trivial)
@[reducible] noncomputable def S43 : Stmt := useS _ _ b43 _ _ _ _ _ _ _ (by show sureS 43 b43 rfl;trivial)
@[reducible] noncomputable def C43 : Obj := useC _ _ b43 _ (by show sureC 43 b43 rfl;trivial)
@[reducible] noncomputable def F43 (pm cd : Value) : Obj := useF _ _ b43 _ (by show sureC 43 b43 rfl;trivial) pm cd
@[reducible] noncomputable def b44 : List Stmt := useB _ (by show sureB 44 rfl;trivial)
@[reducible] noncomputable def S44 : Stmt := useS _ _ b44 _ _ _ _ _ _ _ (by show sureS 44 b44 rfl;trivial)
@[reducible] noncomputable def C44 : Obj := useC _ _ b44 _ (by show sureC 44 b44 rfl;trivial)
@[reducible] noncomputable def F44 (pm cd : Value) : Obj := useF _ _ b44 _ (by show sureC 44 b44 rfl;trivial) pm cd
@[reducible] noncomputable def b45 : List Stmt := useB _ (by show sureB 45 rfl;trivial)
@[reducible] noncomputable def S45 : Stmt := useS _ _ b45 _ _ _ _ _ _ _ (by show sureS 45 b45 rfl;trivial)
@[reducible] noncomputable def C45 : Obj := useC _ _ b45 _ (by show sureC 45 b45 rfl;trivial)
@[reducible] noncomputable def F45 (pm cd : Value) : Obj := useF _ _ b45 _ (by show sureC 45 b45 rfl;trivial) pm cd
@[reducible] noncomputable def b46 : List Stmt := useB _ (by show sureB 46 rfl;trivial)
@[reducible] noncomputable def S46 : Stmt := useS _ _ b46 _ _ _ _ _ _ _ (by show sureS 46 b46 rfl;trivial)
@[reducible] noncomputable def C46 : Obj := useC _ _ b46 _ (by show sureC 46 b46 rfl;trivial)
@[reducible] noncomputable def F46 (pm cd : Value) : Obj := useF _ _ b46 _ (by show sureC 46 b46 rfl;trivial) pm cd
@[reducible] noncomputable def b47 : List Stmt := useB _ (by show sureB 47 rfl;trivial)
@[reducible] noncomputable def S47 : Stmt := useS _ _ b47 _ _ _ _ _ _ _ (by show sureS 47 b47 rfl;trivial)
@[reducible] noncomputable def C47 : Obj := useC _ _ b47 _ (by show sureC 47 b47 rfl;trivial)
@[reducible] noncomputable def F47 (pm cd : Value) : Obj := useF _ _ b47 _ (by show sureC 47 b47 rfl;trivial) pm cd
@[reducible] noncomputable def b48 : List Stmt := useB _ (by show sureB 48 rfl;trivial)
@[reducible] noncomputable def S48 : Stmt := useS _ _ b48 _ _ _ _ _ _ _ (by show sureS 48 b48 rfl;trivial)
@[reducible] noncomputable def C48 : Obj := useC _ _ b48 _ (by show sureC 48 b48 rfl;trivial)
@[reducible] noncomputable def F48 (pm cd : Value) : Obj := useF _ _ b48 _ (by show sureC 48 b48 rfl;trivial) pm cd
@[reducible] noncomputable def b49 : List Stmt := useB _ (by show sureB 49 rfl;trivial)
@[reducible] noncomputable def S49 : Stmt := useS _ _ b49 _ _ _ _ _ _ _ (by show sureS 49 b49 rfl;trivial)
@[reducible] noncomputable def C49 : Obj := useC _ _ b49 _ (by show sureC 49 b49 rfl;trivial)
@[reducible] noncomputable def F49 (pm cd : Value) : Obj := useF _ _ b49 _ (by show sureC 49 b49 rfl;trivial) pm cd
@[reducible] noncomputable def b50 : List Stmt := useB _ (by show sureB 50 rfl;trivial)
@[reducible] noncomputable def S50 : Stmt := useS _ _ b50 _ _ _ _ _ _ _ (by show sureS 50 b50 rfl;trivial)
@[reducible] noncomputable def C50 : Obj := useC _ _ b50 _ (by show sureC 50 b50 rfl;trivial)
@[reducible] noncomputable def F50 (pm cd : Value) : Obj := useF _ _ b50 _ (by show sureC 50 b50 rfl;trivial) pm cd
@[reducible] noncomputable def b51 : List Stmt := useB _ (by show sureB 51 rfl;trivial)
@[reducible] noncomputable def S51 : Stmt := useS _ _ b51 _ _ _ _ _ _ _ (by show sureS 51 b51 rfl;trivial)
@[reducible] noncomputable def C51 : Obj := useC _ _ b51 _ (by show sureC 51 b51 rfl;trivial)
@[reducible] noncomputable def F51 (pm cd : Value) : Obj := useF _ _ b51 _ (by show sureC 51 b51 rfl;trivial) pm cd
@[reducible] noncomputable def b52 : List Stmt := useB _ (by show sureB 52 rfl;trivial)
@[reducible] noncomputable def S52 : Stmt := useS _ _ b52 _ _ _ _ _ _ _ (by show sureS 52 b52 rfl;trivial)
@[reducible] noncomputable def C52 : Obj := useC _ _ b52 _ (by show sureC 52 b52 rfl;trivial)
@[reducible] noncomputable def F52 (pm cd : Value) : Obj := useF _ _ b52 _ (by show sureC 52 b52 rfl;trivial) pm cd
@[reducible] noncomputable def b53 : List Stmt := useB _ (by show sureB 53 rfl;trivial)
@[reducible] noncomputable def S53 : Stmt := useS _ _ b53 _ _ _ _ _ _ _ (by show sureS 53 b53 rfl;trivial)
@[reducible] noncomputable def C53 : Obj := useC _ _ b53 _ (by show sureC 53 b53 rfl;trivial)
@[reducible] noncomputable def F53 (pm cd : Value) : Obj := useF _ _ b53 _ (by show sureC 53 b53 rfl;trivial) pm cd
@[reducible] noncomputable def b54 : List Stmt := useB _ (by show sureB 54 rfl;trivial)
@[reducible] noncomputable def S54 : Stmt := useS _ _ b54 _ _ _ _ _ _ _ (by show sureS 54 b54 rfl;trivial)
@[reducible] noncomputable def C54 : Obj := useC _ _ b54 _ (by show sureC 54 b54 rfl;trivial)
@[reducible] noncomputable def F54 (pm cd : Value) : Obj := useF _ _ b54 _ (by show sureC 54 b54 rfl;trivial) pm cd
@[reducible] noncomputable def b55 : List Stmt := useB _ (by show sureB 55 rfl;trivial)
@[reducible] noncomputable def S55 : Stmt := useS _ _ b55 _ _ _ _ _ _ _ (by show sureS 55 b55 rfl;trivial)
@[reducible] noncomputable def C55 : Obj := useC _ _ b55 _ (by show sureC 55 b55 rfl;trivial)
@[reducible] noncomputable def F55 (pm cd : Value) : Obj := useF _ _ b55 _ (by show sureC 55 b55 rfl;trivial) pm cd
@[reducible] noncomputable def b56 : List Stmt := useB _ (by show sureB 56 rfl;trivial)
@[reducible] noncomputable def S56 : Stmt := useS _ _ b56 _ _ _ _ _ _ _ (by show sureS 56 b56 rfl;trivial)
@[reducible] noncomputable def C56 : Obj := useC _ _ b56 _ (by show sureC 56 b56 rfl;trivial)
@[reducible] noncomputable def F56 (pm cd : Value) : Obj := useF _ _ b56 _ (by show sureC 56 b56 rfl;trivial) pm cd
noncomputable abbrev oa11 (P : Params) : Obj := ⟨.type "tuple",.none,.seq #[] 0,#[]⟩
noncomputable abbrev oa12 (P : Params) : Obj := ⟨.none,.none,.fields #[],#[]⟩
noncomputable abbrev oa13 (P : Params) : Obj := ⟨.type "code",.none,.fields #[.str "<module>" 182,.str "<module>" 183,.str "/claim/cut.py" 184,.int 1 0,.int 0 0,.int 0 0,.int 0 0,.int 0 0,.ref 11,.bool false,.int 181 0,.ref 12,.none,.none,.none,.none,.int 185 0,.int 1 0,.str "/claim/cut.py" 186],#[]⟩
noncomputable abbrev oa14 (P : Params) : Obj := ⟨.type "frame",.none,.plain,#[(.some (.ref 13)),(.some (.ref 3)),(.some (.ref 3)),.none,(.some (.str "__main__" 164)),.none,(.some (.ref 0))]⟩
noncomputable abbrev hA (P : Params) : Heap := ⟨Array.mk [boot_o_0 P,boot_o_1 P,boot_o_2 P,boot_o_3 P,boot_o_4 P,boot_o_5 P,boot_o_6 P,boot_o_7 P,boot_o_8 P,boot_o_9 P,boot_o_10 P,oa11 P,oa12 P,oa13 P,oa14 P],⟨[],[],[],0,[],[],false,#[],[],0,false,false,false,0,[2000,10,10],false,0,true,[],[],0,false⟩⟩
noncomputable abbrev sA (w : World) (os : OsState) : Shared := ⟨hA w.params,Array.mk [],⟨0,0,0,0⟩,187,os⟩
noncomputable abbrev tB (P : Params) : BT := (.node (boot_o_0 P) (.node (boot_o_1 P) (.node (boot_o_3 P) (.node (boot_o_7 P) .nil .nil) (.node (oa11 P) .nil .nil)) (.node (boot_o_5 P) (.node (boot_o_9 P) .nil .nil) (.node (oa13 P) .nil .nil))) (.node (boot_o_2 P) (.node (boot_o_4 P) (.node (boot_o_8 P) .nil .nil) (.node (oa12 P) .nil .nil)) (.node (boot_o_6 P) (.node (boot_o_10 P) .nil .nil) (.node (oa14 P) .nil .nil))))
noncomputable abbrev sB (w : World) (os : OsState) : SharedT := ⟨tB w.params,15,⟨[],[],[],0,[],[],false,#[],[],0,false,false,false,0,[2000,10,10],false,0,true,[],[],0,false⟩,Array.mk [],⟨0,0,0,0⟩,187,os⟩
noncomputable abbrev oc3 (P : Params) : Obj := ⟨.type "dict",.none,(.dict #[⟨(PyData.keyHash P "__name__"),.str "__name__" 165,.str "corecc.rv32" 189⟩,⟨(PyData.keyHash P "__doc__"),.str "__doc__" 166,.none⟩,⟨(PyData.keyHash P "__package__"),.str "__package__" 167,.none⟩,⟨(PyData.keyHash P "__loader__"),.str "__loader__" 168,.builtin "__main__.__loader__#opaque"⟩,⟨(PyData.keyHash P "__spec__"),.str "__spec__" 169,.none⟩,⟨(PyData.keyHash P "__annotations__"),.str "__annotations__" 170,.ref 6⟩,⟨(PyData.keyHash P "__builtins__"),.str "__builtins__" 171,.ref 4⟩,⟨(PyData.keyHash P "__file__"),.str "__file__" 173,.str "/claim/cut.py" 172⟩,⟨(PyData.keyHash P "__cached__"),.str "__cached__" 174,.none⟩,⟨(PyData.keyHash P "WORD_MASK"),.str "WORD_MASK" 188,.int 4294967295 187⟩,⟨(PyData.keyHash P "REGISTER_NAMES"),.str "REGISTER_NAMES" 223,.ref 15⟩,⟨(PyData.keyHash P "LUI"),.str "LUI" 225,.int 55 224⟩,⟨(PyData.keyHash P "AUIPC"),.str "AUIPC" 227,.int 23 226⟩,⟨(PyData.keyHash P "JAL"),.str "JAL" 229,.int 111 228⟩,⟨(PyData.keyHash P "WITH_IMM"),.str "WITH_IMM" 231,.int 19 230⟩,⟨(PyData.keyHash P "WITH_REG"),.str "WITH_REG" 233,.int 51 232⟩,⟨(PyData.keyHash P "FENCE"),.str "FENCE" 235,.int 15 234⟩,⟨(PyData.keyHash P "SYSTEM"),.str "SYSTEM" 237,.int 115 236⟩,⟨(PyData.keyHash P "INSTRUCTIONS"),.str "INSTRUCTIONS" 430,.ref 16⟩,⟨(PyData.keyHash P "PLACES"),.str "PLACES" 475,.ref 67⟩,⟨(PyData.keyHash P "BOUNDS"),.str "BOUNDS" 515,.ref 90⟩,⟨(PyData.keyHash P "signed"),.str "signed" 524,.ref 104⟩,⟨(PyData.keyHash P "imm_of"),.str "imm_of" 533,.ref 111⟩,⟨(PyData.keyHash P "names_by_base"),.str "names_by_base" 539,.ref 116⟩] 24),#[]⟩
noncomputable abbrev oc12 (P : Params) : Obj := ⟨.none,.none,.fields #[.int 14 0,.int 0 0,.ref 103,.int 17 0,.int 0 0,.ref 110,.int 33 0,.int 0 0,.ref 115],#[]⟩
noncomputable abbrev oc15 (P : Params) : Obj := ⟨.type "list",.none,.seq #[.str "zero" 191,.str "ra" 192,.str "sp" 193,.str "gp" 194,.str "tp" 195,.str "t0" 196,.str "t1" 197,.str "t2" 198,.str "s0" 199,.str "s1" 200,.str "a0" 201,.str "a1" 202,.str "a2" 203,.str "a3" 204,.str "a4" 205,.str "a5" 206,.str "a6" 207,.str "a7" 208,.str "s2" 209,.str "s3" 210,.str "s4" 211,.str "s5" 212,.str "s6" 213,.str "s7" 214,.str "s8" 215,.str "s9" 216,.str "s10" 217,.str "s11" 218,.str "t3" 219,.str "t4" 220,.str "t5" 221,.str "t6" 222] 0,#[]⟩
noncomputable abbrev oc16 (P : Params) : Obj := ⟨.type "dict",.none,(.dict #[⟨(PyData.keyHash P "lui"),.str "lui" 238,.ref 17⟩,⟨(PyData.keyHash P "auipc"),.str "auipc" 242,.ref 18⟩,⟨(PyData.keyHash P "jal"),.str "jal" 246,.ref 19⟩,⟨(PyData.keyHash P "jalr"),.str "jalr" 250,.ref 20⟩,⟨(PyData.keyHash P "beq"),.str "beq" 254,.ref 21⟩,⟨(PyData.keyHash P "bne"),.str "bne" 258,.ref 22⟩,⟨(PyData.keyHash P "blt"),.str "blt" 262,.ref 23⟩,⟨(PyData.keyHash P "bge"),.str "bge" 266,.ref 24⟩,⟨(PyData.keyHash P "bltu"),.str "bltu" 270,.ref 25⟩,⟨(PyData.keyHash P "bgeu"),.str "bgeu" 274,.ref 26⟩,⟨(PyData.keyHash P "lb"),.str "lb" 278,.ref 27⟩,⟨(PyData.keyHash P "lh"),.str "lh" 282,.ref 28⟩,⟨(PyData.keyHash P "lw"),.str "lw" 286,.ref 29⟩,⟨(PyData.keyHash P "lbu"),.str "lbu" 290,.ref 30⟩,⟨(PyData.keyHash P "lhu"),.str "lhu" 294,.ref 31⟩,⟨(PyData.keyHash P "sb"),.str "sb" 298,.ref 32⟩,⟨(PyData.keyHash P "sh"),.str "sh" 302,.ref 33⟩,⟨(PyData.keyHash P "sw"),.str "sw" 306,.ref 35⟩,⟨(PyData.keyHash P "addi"),.str "addi" 310,.ref 36⟩,⟨(PyData.keyHash P "slti"),.str "slti" 314,.ref 37⟩,⟨(PyData.keyHash P "sltiu"),.str "sltiu" 318,.ref 38⟩,⟨(PyData.keyHash P "xori"),.str "xori" 322,.ref 39⟩,⟨(PyData.keyHash P "ori"),.str "ori" 326,.ref 40⟩,⟨(PyData.keyHash P "andi"),.str "andi" 330,.ref 41⟩,⟨(PyData.keyHash P "slli"),.str "slli" 334,.ref 42⟩,⟨(PyData.keyHash P "srli"),.str "srli" 338,.ref 43⟩,⟨(PyData.keyHash P "srai"),.str "srai" 342,.ref 44⟩,⟨(PyData.keyHash P "add"),.str "add" 346,.ref 45⟩,⟨(PyData.keyHash P "sub"),.str "sub" 350,.ref 46⟩,⟨(PyData.keyHash P "sll"),.str "sll" 354,.ref 47⟩,⟨(PyData.keyHash P "slt"),.str "slt" 358,.ref 48⟩,⟨(PyData.keyHash P "sltu"),.str "sltu" 362,.ref 49⟩,⟨(PyData.keyHash P "xor"),.str "xor" 366,.ref 50⟩,⟨(PyData.keyHash P "srl"),.str "srl" 370,.ref 51⟩,⟨(PyData.keyHash P "sra"),.str "sra" 374,.ref 53⟩,⟨(PyData.keyHash P "or"),.str "or" 377,.ref 54⟩,⟨(PyData.keyHash P "and"),.str "and" 380,.ref 55⟩,⟨(PyData.keyHash P "mul"),.str "mul" 383,.ref 56⟩,⟨(PyData.keyHash P "mulh"),.str "mulh" 386,.ref 57⟩,⟨(PyData.keyHash P "mulhsu"),.str "mulhsu" 389,.ref 58⟩,⟨(PyData.keyHash P "mulhu"),.str "mulhu" 392,.ref 59⟩,⟨(PyData.keyHash P "div"),.str "div" 395,.ref 60⟩,⟨(PyData.keyHash P "divu"),.str "divu" 398,.ref 61⟩,⟨(PyData.keyHash P "rem"),.str "rem" 401,.ref 62⟩,⟨(PyData.keyHash P "remu"),.str "remu" 404,.ref 63⟩,⟨(PyData.keyHash P "fence"),.str "fence" 407,.ref 64⟩,⟨(PyData.keyHash P "ecall"),.str "ecall" 410,.ref 65⟩,⟨(PyData.keyHash P "ebreak"),.str "ebreak" 413,.ref 66⟩] 48),#[]⟩
noncomputable abbrev oc17 (P : Params) : Obj := ⟨.type "tuple",.none,.seq #[.str "U" 239,.int 55 240] 0,#[]⟩
noncomputable abbrev oc18 (P : Params) : Obj := ⟨.type "tuple",.none,.seq #[.str "U" 243,.int 23 244] 0,#[]⟩
noncomputable abbrev oc19 (P : Params) : Obj := ⟨.type "tuple",.none,.seq #[.str "J" 247,.int 111 248] 0,#[]⟩
noncomputable abbrev oc20 (P : Params) : Obj := ⟨.type "tuple",.none,.seq #[.str "I" 251,.int 103 252] 0,#[]⟩
noncomputable abbrev oc21 (P : Params) : Obj := ⟨.type "tuple",.none,.seq #[.str "B" 255,.int 99 256] 0,#[]⟩
noncomputable abbrev oc22 (P : Params) : Obj := ⟨.type "tuple",.none,.seq #[.str "B" 259,.int 4195 260] 0,#[]⟩
noncomputable abbrev oc23 (P : Params) : Obj := ⟨.type "tuple",.none,.seq #[.str "B" 263,.int 16483 264] 0,#[]⟩
noncomputable abbrev oc24 (P : Params) : Obj := ⟨.type "tuple",.none,.seq #[.str "B" 267,.int 20579 268] 0,#[]⟩
noncomputable abbrev oc25 (P : Params) : Obj := ⟨.type "tuple",.none,.seq #[.str "B" 271,.int 24675 272] 0,#[]⟩
noncomputable abbrev oc26 (P : Params) : Obj := ⟨.type "tuple",.none,.seq #[.str "B" 275,.int 28771 276] 0,#[]⟩
noncomputable abbrev oc27 (P : Params) : Obj := ⟨.type "tuple",.none,.seq #[.str "I" 279,.int 3 280] 0,#[]⟩
noncomputable abbrev oc28 (P : Params) : Obj := ⟨.type "tuple",.none,.seq #[.str "I" 283,.int 4099 284] 0,#[]⟩
noncomputable abbrev oc29 (P : Params) : Obj := ⟨.type "tuple",.none,.seq #[.str "I" 287,.int 8195 288] 0,#[]⟩
noncomputable abbrev oc30 (P : Params) : Obj := ⟨.type "tuple",.none,.seq #[.str "I" 291,.int 16387 292] 0,#[]⟩
noncomputable abbrev oc31 (P : Params) : Obj := ⟨.type "tuple",.none,.seq #[.str "I" 295,.int 20483 296] 0,#[]⟩
noncomputable abbrev oc32 (P : Params) : Obj := ⟨.type "tuple",.none,.seq #[.str "S" 299,.int 35 300] 0,#[]⟩
noncomputable abbrev oc33 (P : Params) : Obj := ⟨.type "tuple",.none,.seq #[.str "S" 303,.int 4131 304] 0,#[]⟩
noncomputable abbrev oc34 (P : Params) : Obj := ⟨.type "dict",.none,(.dict #[⟨(PyData.keyHash P "sw"),.str "sw" 306,.ref 35⟩,⟨(PyData.keyHash P "addi"),.str "addi" 310,.ref 36⟩,⟨(PyData.keyHash P "slti"),.str "slti" 314,.ref 37⟩,⟨(PyData.keyHash P "sltiu"),.str "sltiu" 318,.ref 38⟩,⟨(PyData.keyHash P "xori"),.str "xori" 322,.ref 39⟩,⟨(PyData.keyHash P "ori"),.str "ori" 326,.ref 40⟩,⟨(PyData.keyHash P "andi"),.str "andi" 330,.ref 41⟩,⟨(PyData.keyHash P "slli"),.str "slli" 334,.ref 42⟩,⟨(PyData.keyHash P "srli"),.str "srli" 338,.ref 43⟩,⟨(PyData.keyHash P "srai"),.str "srai" 342,.ref 44⟩,⟨(PyData.keyHash P "add"),.str "add" 346,.ref 45⟩,⟨(PyData.keyHash P "sub"),.str "sub" 350,.ref 46⟩,⟨(PyData.keyHash P "sll"),.str "sll" 354,.ref 47⟩,⟨(PyData.keyHash P "slt"),.str "slt" 358,.ref 48⟩,⟨(PyData.keyHash P "sltu"),.str "sltu" 362,.ref 49⟩,⟨(PyData.keyHash P "xor"),.str "xor" 366,.ref 50⟩,⟨(PyData.keyHash P "srl"),.str "srl" 370,.ref 51⟩] 17),#[]⟩
noncomputable abbrev oc35 (P : Params) : Obj := ⟨.type "tuple",.none,.seq #[.str "S" 307,.int 8227 308] 0,#[]⟩
noncomputable abbrev oc36 (P : Params) : Obj := ⟨.type "tuple",.none,.seq #[.str "I" 311,.int 19 312] 0,#[]⟩
noncomputable abbrev oc37 (P : Params) : Obj := ⟨.type "tuple",.none,.seq #[.str "I" 315,.int 8211 316] 0,#[]⟩
noncomputable abbrev oc38 (P : Params) : Obj := ⟨.type "tuple",.none,.seq #[.str "I" 319,.int 12307 320] 0,#[]⟩
noncomputable abbrev oc39 (P : Params) : Obj := ⟨.type "tuple",.none,.seq #[.str "I" 323,.int 16403 324] 0,#[]⟩
noncomputable abbrev oc40 (P : Params) : Obj := ⟨.type "tuple",.none,.seq #[.str "I" 327,.int 24595 328] 0,#[]⟩
noncomputable abbrev oc41 (P : Params) : Obj := ⟨.type "tuple",.none,.seq #[.str "I" 331,.int 28691 332] 0,#[]⟩
noncomputable abbrev oc42 (P : Params) : Obj := ⟨.type "tuple",.none,.seq #[.str "H" 335,.int 4115 336] 0,#[]⟩
noncomputable abbrev oc43 (P : Params) : Obj := ⟨.type "tuple",.none,.seq #[.str "H" 339,.int 20499 340] 0,#[]⟩
noncomputable abbrev oc44 (P : Params) : Obj := ⟨.type "tuple",.none,.seq #[.str "H" 343,.int 1073762323 344] 0,#[]⟩
noncomputable abbrev oc45 (P : Params) : Obj := ⟨.type "tuple",.none,.seq #[.str "R" 347,.int 51 348] 0,#[]⟩
noncomputable abbrev oc46 (P : Params) : Obj := ⟨.type "tuple",.none,.seq #[.str "R" 351,.int 1073741875 352] 0,#[]⟩
noncomputable abbrev oc47 (P : Params) : Obj := ⟨.type "tuple",.none,.seq #[.str "R" 355,.int 4147 356] 0,#[]⟩
noncomputable abbrev oc48 (P : Params) : Obj := ⟨.type "tuple",.none,.seq #[.str "R" 359,.int 8243 360] 0,#[]⟩
noncomputable abbrev oc49 (P : Params) : Obj := ⟨.type "tuple",.none,.seq #[.str "R" 363,.int 12339 364] 0,#[]⟩
noncomputable abbrev oc50 (P : Params) : Obj := ⟨.type "tuple",.none,.seq #[.str "R" 367,.int 16435 368] 0,#[]⟩
noncomputable abbrev oc51 (P : Params) : Obj := ⟨.type "tuple",.none,.seq #[.str "R" 371,.int 20531 372] 0,#[]⟩
noncomputable abbrev oc52 (P : Params) : Obj := ⟨.type "dict",.none,(.dict #[⟨(PyData.keyHash P "sra"),.str "sra" 374,.ref 53⟩,⟨(PyData.keyHash P "or"),.str "or" 377,.ref 54⟩,⟨(PyData.keyHash P "and"),.str "and" 380,.ref 55⟩,⟨(PyData.keyHash P "mul"),.str "mul" 383,.ref 56⟩,⟨(PyData.keyHash P "mulh"),.str "mulh" 386,.ref 57⟩,⟨(PyData.keyHash P "mulhsu"),.str "mulhsu" 389,.ref 58⟩,⟨(PyData.keyHash P "mulhu"),.str "mulhu" 392,.ref 59⟩,⟨(PyData.keyHash P "div"),.str "div" 395,.ref 60⟩,⟨(PyData.keyHash P "divu"),.str "divu" 398,.ref 61⟩,⟨(PyData.keyHash P "rem"),.str "rem" 401,.ref 62⟩,⟨(PyData.keyHash P "remu"),.str "remu" 404,.ref 63⟩,⟨(PyData.keyHash P "fence"),.str "fence" 407,.ref 64⟩,⟨(PyData.keyHash P "ecall"),.str "ecall" 410,.ref 65⟩,⟨(PyData.keyHash P "ebreak"),.str "ebreak" 413,.ref 66⟩] 14),#[]⟩
noncomputable abbrev oc53 (P : Params) : Obj := ⟨.type "tuple",.none,.seq #[.str "R" 375,.int 1073762355 376] 0,#[]⟩
noncomputable abbrev oc54 (P : Params) : Obj := ⟨.type "tuple",.none,.seq #[.str "R" 378,.int 24627 379] 0,#[]⟩
noncomputable abbrev oc55 (P : Params) : Obj := ⟨.type "tuple",.none,.seq #[.str "R" 381,.int 28723 382] 0,#[]⟩
noncomputable abbrev oc56 (P : Params) : Obj := ⟨.type "tuple",.none,.seq #[.str "R" 384,.int 33554483 385] 0,#[]⟩
noncomputable abbrev oc57 (P : Params) : Obj := ⟨.type "tuple",.none,.seq #[.str "R" 387,.int 33558579 388] 0,#[]⟩
noncomputable abbrev oc58 (P : Params) : Obj := ⟨.type "tuple",.none,.seq #[.str "R" 390,.int 33562675 391] 0,#[]⟩
noncomputable abbrev oc59 (P : Params) : Obj := ⟨.type "tuple",.none,.seq #[.str "R" 393,.int 33566771 394] 0,#[]⟩
noncomputable abbrev oc60 (P : Params) : Obj := ⟨.type "tuple",.none,.seq #[.str "R" 396,.int 33570867 397] 0,#[]⟩
noncomputable abbrev oc61 (P : Params) : Obj := ⟨.type "tuple",.none,.seq #[.str "R" 399,.int 33574963 400] 0,#[]⟩
noncomputable abbrev oc62 (P : Params) : Obj := ⟨.type "tuple",.none,.seq #[.str "R" 402,.int 33579059 403] 0,#[]⟩
noncomputable abbrev oc63 (P : Params) : Obj := ⟨.type "tuple",.none,.seq #[.str "R" 405,.int 33583155 406] 0,#[]⟩
noncomputable abbrev oc64 (P : Params) : Obj := ⟨.type "tuple",.none,.seq #[.str "F" 408,.int 15 409] 0,#[]⟩
noncomputable abbrev oc65 (P : Params) : Obj := ⟨.type "tuple",.none,.seq #[.str "E" 411,.int 115 412] 0,#[]⟩
noncomputable abbrev oc66 (P : Params) : Obj := ⟨.type "tuple",.none,.seq #[.str "E" 414,.int 1048691 415] 0,#[]⟩
noncomputable abbrev oc67 (P : Params) : Obj := ⟨.type "dict",.none,(.dict #[⟨(PyData.keyHash P "R"),.str "R" 431,.ref 71⟩,⟨(PyData.keyHash P "I"),.str "I" 438,.ref 74⟩,⟨(PyData.keyHash P "H"),.str "H" 443,.ref 77⟩,⟨(PyData.keyHash P "S"),.str "S" 448,.ref 80⟩,⟨(PyData.keyHash P "B"),.str "B" 453,.ref 83⟩,⟨(PyData.keyHash P "U"),.str "U" 458,.ref 85⟩,⟨(PyData.keyHash P "J"),.str "J" 461,.ref 87⟩,⟨(PyData.keyHash P "F"),.str "F" 464,.ref 88⟩,⟨(PyData.keyHash P "E"),.str "E" 465,.ref 89⟩] 9),#[]⟩
noncomputable abbrev oc68 (P : Params) : Obj := ⟨.type "tuple",.none,.seq #[.str "rd" 432,.int 7 433] 0,#[]⟩
noncomputable abbrev oc69 (P : Params) : Obj := ⟨.type "tuple",.none,.seq #[.str "rs1" 434,.int 15 435] 0,#[]⟩
noncomputable abbrev oc70 (P : Params) : Obj := ⟨.type "tuple",.none,.seq #[.str "rs2" 436,.int 20 437] 0,#[]⟩
noncomputable abbrev oc71 (P : Params) : Obj := ⟨.type "tuple",.none,.seq #[.ref 68,.ref 69,.ref 70] 0,#[]⟩
noncomputable abbrev oc72 (P : Params) : Obj := ⟨.type "tuple",.none,.seq #[.str "rd" 439,.int 7 440] 0,#[]⟩
noncomputable abbrev oc73 (P : Params) : Obj := ⟨.type "tuple",.none,.seq #[.str "rs1" 441,.int 15 442] 0,#[]⟩
noncomputable abbrev oc74 (P : Params) : Obj := ⟨.type "tuple",.none,.seq #[.ref 72,.ref 73] 0,#[]⟩
noncomputable abbrev oc75 (P : Params) : Obj := ⟨.type "tuple",.none,.seq #[.str "rd" 444,.int 7 445] 0,#[]⟩
noncomputable abbrev oc76 (P : Params) : Obj := ⟨.type "tuple",.none,.seq #[.str "rs1" 446,.int 15 447] 0,#[]⟩
noncomputable abbrev oc77 (P : Params) : Obj := ⟨.type "tuple",.none,.seq #[.ref 75,.ref 76] 0,#[]⟩
noncomputable abbrev oc78 (P : Params) : Obj := ⟨.type "tuple",.none,.seq #[.str "rs1" 449,.int 15 450] 0,#[]⟩
noncomputable abbrev oc79 (P : Params) : Obj := ⟨.type "tuple",.none,.seq #[.str "rs2" 451,.int 20 452] 0,#[]⟩
noncomputable abbrev oc80 (P : Params) : Obj := ⟨.type "tuple",.none,.seq #[.ref 78,.ref 79] 0,#[]⟩
noncomputable abbrev oc81 (P : Params) : Obj := ⟨.type "tuple",.none,.seq #[.str "rs1" 454,.int 15 455] 0,#[]⟩
noncomputable abbrev oc82 (P : Params) : Obj := ⟨.type "tuple",.none,.seq #[.str "rs2" 456,.int 20 457] 0,#[]⟩
noncomputable abbrev oc83 (P : Params) : Obj := ⟨.type "tuple",.none,.seq #[.ref 81,.ref 82] 0,#[]⟩
noncomputable abbrev oc84 (P : Params) : Obj := ⟨.type "tuple",.none,.seq #[.str "rd" 459,.int 7 460] 0,#[]⟩
noncomputable abbrev oc85 (P : Params) : Obj := ⟨.type "tuple",.none,.seq #[.ref 84] 0,#[]⟩
noncomputable abbrev oc86 (P : Params) : Obj := ⟨.type "tuple",.none,.seq #[.str "rd" 462,.int 7 463] 0,#[]⟩
noncomputable abbrev oc87 (P : Params) : Obj := ⟨.type "tuple",.none,.seq #[.ref 86] 0,#[]⟩
noncomputable abbrev oc88 (P : Params) : Obj := ⟨.type "tuple",.none,.seq #[] 0,#[]⟩
noncomputable abbrev oc89 (P : Params) : Obj := ⟨.type "tuple",.none,.seq #[] 0,#[]⟩
noncomputable abbrev oc90 (P : Params) : Obj := ⟨.type "dict",.none,(.dict #[⟨(PyData.keyHash P "I"),.str "I" 476,.ref 91⟩,⟨(PyData.keyHash P "H"),.str "H" 481,.ref 92⟩,⟨(PyData.keyHash P "S"),.str "S" 485,.ref 93⟩,⟨(PyData.keyHash P "B"),.str "B" 490,.ref 94⟩,⟨(PyData.keyHash P "U"),.str "U" 495,.ref 95⟩,⟨(PyData.keyHash P "J"),.str "J" 499,.ref 96⟩,⟨(PyData.keyHash P "F"),.str "F" 504,.ref 97⟩] 7),#[]⟩
noncomputable abbrev oc91 (P : Params) : Obj := ⟨.type "tuple",.none,(.seq #[(.int (-2048) 478),.int 2047 479,.int 1 480] 0),#[]⟩
noncomputable abbrev oc92 (P : Params) : Obj := ⟨.type "tuple",.none,.seq #[.int 0 482,.int 31 483,.int 1 484] 0,#[]⟩
noncomputable abbrev oc93 (P : Params) : Obj := ⟨.type "tuple",.none,(.seq #[(.int (-2048) 487),.int 2047 488,.int 1 489] 0),#[]⟩
noncomputable abbrev oc94 (P : Params) : Obj := ⟨.type "tuple",.none,(.seq #[(.int (-4096) 492),.int 4094 493,.int 2 494] 0),#[]⟩
noncomputable abbrev oc95 (P : Params) : Obj := ⟨.type "tuple",.none,.seq #[.int 0 496,.int 1048575 497,.int 1 498] 0,#[]⟩
noncomputable abbrev oc96 (P : Params) : Obj := ⟨.type "tuple",.none,(.seq #[(.int (-1048576) 501),.int 1048574 502,.int 2 503] 0),#[]⟩
noncomputable abbrev oc97 (P : Params) : Obj := ⟨.type "tuple",.none,.seq #[.int 0 505,.int 255 506,.int 1 507] 0,#[]⟩
noncomputable abbrev oc98 (P : Params) : Obj := ⟨.type "tuple",.none,.seq #[] 0,#[]⟩
noncomputable abbrev oc99 (P : Params) : Obj := ⟨.none,.none,.fields #[],#[]⟩
noncomputable abbrev oc100 (P : Params) : Obj := ⟨.type "tuple",.none,.seq #[.str "value" 519,.str "width" 520,.str "low" 521] 0,#[]⟩
noncomputable abbrev oc101 (P : Params) : Obj := ⟨.type "tuple",.none,.seq #[] 0,#[]⟩
noncomputable abbrev oc102 (P : Params) : Obj := C13
noncomputable abbrev oc103 (P : Params) : Obj := ⟨.type "code",.none,.fields #[.str "signed" 516,.str "signed" 517,.str "/claim/cut.py" 518,.int 14 0,.int 2 0,.int 0 0,.int 0 0,.int 3 0,.ref 98,.bool true,.int 181 0,.ref 99,.none,.ref 100,.ref 101,.ref 102,.int 522 0,.int 14 0,.str "/claim/cut.py" 523],#[]⟩
noncomputable abbrev oc104 (P : Params) : Obj := F13 (.str "corecc.rv32" 189) (.ref 103)
noncomputable abbrev oc105 (P : Params) : Obj := ⟨.type "tuple",.none,.seq #[] 0,#[]⟩
noncomputable abbrev oc106 (P : Params) : Obj := ⟨.none,.none,.fields #[],#[]⟩
noncomputable abbrev oc107 (P : Params) : Obj := ⟨.type "tuple",.none,.seq #[.str "form" 528,.str "word" 529,.str "high" 530] 0,#[]⟩
noncomputable abbrev oc108 (P : Params) : Obj := ⟨.type "tuple",.none,.seq #[] 0,#[]⟩
noncomputable abbrev oc109 (P : Params) : Obj := C14
noncomputable abbrev oc110 (P : Params) : Obj := ⟨.type "code",.none,.fields #[.str "imm_of" 525,.str "imm_of" 526,.str "/claim/cut.py" 527,.int 17 0,.int 2 0,.int 0 0,.int 0 0,.int 3 0,.ref 105,.bool true,.int 181 0,.ref 106,.none,.ref 107,.ref 108,.ref 109,.int 531 0,.int 17 0,.str "/claim/cut.py" 532],#[]⟩
noncomputable abbrev oc111 (P : Params) : Obj := F14 (.str "corecc.rv32" 189) (.ref 110)
noncomputable abbrev oc112 (P : Params) : Obj := ⟨.type "tuple",.none,.seq #[] 0,#[]⟩
noncomputable abbrev oc113 (P : Params) : Obj := ⟨.none,.none,.fields #[],#[]⟩
noncomputable abbrev oc114 (P : Params) : Obj := C15
noncomputable abbrev oc115 (P : Params) : Obj := ⟨.type "code",.none,.fields #[.str "names_by_base" 534,.str "names_by_base" 535,.str "/claim/cut.py" 536,.int 33 0,.int 0 0,.int 0 0,.int 0 0,.int 3 0,.ref 112,.bool true,.int 181 0,.ref 113,.none,.none,.none,.ref 114,.int 537 0,.int 33 0,.str "/claim/cut.py" 538],#[]⟩
noncomputable abbrev oc116 (P : Params) : Obj := F15 (.str "corecc.rv32" 189) (.ref 115)
noncomputable abbrev tC_15 (P : Params) : BT := (.node (oc15 P) (.node (oc31 P) (.node (oc63 P) .nil .nil) (.node (oc95 P) .nil .nil)) (.node (oc47 P) (.node (oc79 P) .nil .nil) (.node (oc111 P) .nil .nil)))
noncomputable abbrev tC_23 (P : Params) : BT := (.node (oc23 P) (.node (oc39 P) (.node (oc71 P) .nil .nil) (.node (oc103 P) .nil .nil)) (.node (oc55 P) (.node (oc87 P) .nil .nil) .nil))
noncomputable abbrev tC_19 (P : Params) : BT := (.node (oc19 P) (.node (oc35 P) (.node (oc67 P) .nil .nil) (.node (oc99 P) .nil .nil)) (.node (oc51 P) (.node (oc83 P) .nil .nil) (.node (oc115 P) .nil .nil)))
noncomputable abbrev tC_27 (P : Params) : BT := (.node (oc27 P) (.node (oc43 P) (.node (oc75 P) .nil .nil) (.node (oc107 P) .nil .nil)) (.node (oc59 P) (.node (oc91 P) .nil .nil) .nil))
noncomputable abbrev tC_17 (P : Params) : BT := (.node (oc17 P) (.node (oc33 P) (.node (oc65 P) .nil .nil) (.node (oc97 P) .nil .nil)) (.node (oc49 P) (.node (oc81 P) .nil .nil) (.node (oc113 P) .nil .nil)))
noncomputable abbrev tC_25 (P : Params) : BT := (.node (oc25 P) (.node (oc41 P) (.node (oc73 P) .nil .nil) (.node (oc105 P) .nil .nil)) (.node (oc57 P) (.node (oc89 P) .nil .nil) .nil))
noncomputable abbrev tC_21 (P : Params) : BT := (.node (oc21 P) (.node (oc37 P) (.node (oc69 P) .nil .nil) (.node (oc101 P) .nil .nil)) (.node (oc53 P) (.node (oc85 P) .nil .nil) .nil))
noncomputable abbrev tC_29 (P : Params) : BT := (.node (oc29 P) (.node (oc45 P) (.node (oc77 P) .nil .nil) (.node (oc109 P) .nil .nil)) (.node (oc61 P) (.node (oc93 P) .nil .nil) .nil))
noncomputable abbrev tC_16 (P : Params) : BT := (.node (oc16 P) (.node (oc32 P) (.node (oc64 P) .nil .nil) (.node (oc96 P) .nil .nil)) (.node (oc48 P) (.node (oc80 P) .nil .nil) (.node (oc112 P) .nil .nil)))
noncomputable abbrev tC_24 (P : Params) : BT := (.node (oc24 P) (.node (oc40 P) (.node (oc72 P) .nil .nil) (.node (oc104 P) .nil .nil)) (.node (oc56 P) (.node (oc88 P) .nil .nil) .nil))
noncomputable abbrev tC_20 (P : Params) : BT := (.node (oc20 P) (.node (oc36 P) (.node (oc68 P) .nil .nil) (.node (oc100 P) .nil .nil)) (.node (oc52 P) (.node (oc84 P) .nil .nil) (.node (oc116 P) .nil .nil)))
noncomputable abbrev tC_28 (P : Params) : BT := (.node (oc28 P) (.node (oc44 P) (.node (oc76 P) .nil .nil) (.node (oc108 P) .nil .nil)) (.node (oc60 P) (.node (oc92 P) .nil .nil) .nil))
noncomputable abbrev tC_18 (P : Params) : BT := (.node (oc18 P) (.node (oc34 P) (.node (oc66 P) .nil .nil) (.node (oc98 P) .nil .nil)) (.node (oc50 P) (.node (oc82 P) .nil .nil) (.node (oc114 P) .nil .nil)))
noncomputable abbrev tC_26 (P : Params) : BT := (.node (oc26 P) (.node (oc42 P) (.node (oc74 P) .nil .nil) (.node (oc106 P) .nil .nil)) (.node (oc58 P) (.node (oc90 P) .nil .nil) .nil))
noncomputable abbrev tC_22 (P : Params) : BT := (.node (oc22 P) (.node (oc38 P) (.node (oc70 P) .nil .nil) (.node (oc102 P) .nil .nil)) (.node (oc54 P) (.node (oc86 P) .nil .nil) .nil))
noncomputable abbrev tC_30 (P : Params) : BT := (.node (oc30 P) (.node (oc46 P) (.node (oc78 P) .nil .nil) (.node (oc110 P) .nil .nil)) (.node (oc62 P) (.node (oc94 P) .nil .nil) .nil))
noncomputable abbrev tC (P : Params) : BT := (.node (boot_o_0 P) (.node (boot_o_1 P) (.node (oc3 P) (.node (boot_o_7 P) (tC_15 P) (tC_23 P)) (.node (oa11 P) (tC_19 P) (tC_27 P))) (.node (boot_o_5 P) (.node (boot_o_9 P) (tC_17 P) (tC_25 P)) (.node (oa13 P) (tC_21 P) (tC_29 P)))) (.node (boot_o_2 P) (.node (boot_o_4 P) (.node (boot_o_8 P) (tC_16 P) (tC_24 P)) (.node (oc12 P) (tC_20 P) (tC_28 P))) (.node (boot_o_6 P) (.node (boot_o_10 P) (tC_18 P) (tC_26 P)) (.node (oa14 P) (tC_22 P) (tC_30 P)))))
noncomputable abbrev sC (w : World) (os : OsState) : SharedT := ⟨tC w.params,117,⟨[],[],[],0,[],[],false,#[],[],0,false,false,false,0,[2000,10,10],false,0,true,[],[],0,false⟩,Array.mk [],⟨0,0,0,0⟩,540,os⟩
noncomputable abbrev od3 (P : Params) : Obj := ⟨.type "dict",.none,(.dict #[⟨(PyData.keyHash P "__name__"),.str "__name__" 165,.str "corecc.rv32" 189⟩,⟨(PyData.keyHash P "__doc__"),.str "__doc__" 166,.none⟩,⟨(PyData.keyHash P "__package__"),.str "__package__" 167,.none⟩,⟨(PyData.keyHash P "__loader__"),.str "__loader__" 168,.builtin "__main__.__loader__#opaque"⟩,⟨(PyData.keyHash P "__spec__"),.str "__spec__" 169,.none⟩,⟨(PyData.keyHash P "__annotations__"),.str "__annotations__" 170,.ref 6⟩,⟨(PyData.keyHash P "__builtins__"),.str "__builtins__" 171,.ref 4⟩,⟨(PyData.keyHash P "__file__"),.str "__file__" 173,.str "/claim/cut.py" 172⟩,⟨(PyData.keyHash P "__cached__"),.str "__cached__" 174,.none⟩,⟨(PyData.keyHash P "WORD_MASK"),.str "WORD_MASK" 188,.int 4294967295 187⟩,⟨(PyData.keyHash P "REGISTER_NAMES"),.str "REGISTER_NAMES" 223,.ref 15⟩,⟨(PyData.keyHash P "LUI"),.str "LUI" 225,.int 55 224⟩,⟨(PyData.keyHash P "AUIPC"),.str "AUIPC" 227,.int 23 226⟩,⟨(PyData.keyHash P "JAL"),.str "JAL" 229,.int 111 228⟩,⟨(PyData.keyHash P "WITH_IMM"),.str "WITH_IMM" 231,.int 19 230⟩,⟨(PyData.keyHash P "WITH_REG"),.str "WITH_REG" 233,.int 51 232⟩,⟨(PyData.keyHash P "FENCE"),.str "FENCE" 235,.int 15 234⟩,⟨(PyData.keyHash P "SYSTEM"),.str "SYSTEM" 237,.int 115 236⟩,⟨(PyData.keyHash P "INSTRUCTIONS"),.str "INSTRUCTIONS" 430,.ref 16⟩,⟨(PyData.keyHash P "PLACES"),.str "PLACES" 475,.ref 67⟩,⟨(PyData.keyHash P "BOUNDS"),.str "BOUNDS" 515,.ref 90⟩,⟨(PyData.keyHash P "signed"),.str "signed" 524,.ref 104⟩,⟨(PyData.keyHash P "imm_of"),.str "imm_of" 533,.ref 111⟩,⟨(PyData.keyHash P "names_by_base"),.str "names_by_base" 539,.ref 116⟩,⟨(PyData.keyHash P "NAMES_BY_BASE"),.str "NAMES_BY_BASE" 732,.ref 120⟩] 25),#[]⟩
noncomputable abbrev od117 (P : Params) : Obj := ⟨.type "frame",.none,.dict #[] 0,#[]⟩
noncomputable abbrev od118 (P : Params) : Obj := ⟨.type "dict_items",.none,.fields #[.ref 16],#[]⟩
noncomputable abbrev od119 (P : Params) : Obj := ⟨.type "dict_itemiterator",.none,.fields #[.none,.bool false,.none,.int 48 0,.int 48 0,.int 48 0,.str "ebreak" 413,.ref 66],#[]⟩
noncomputable abbrev od120 (P : Params) : Obj := ⟨.type "dict",.none,.dict #[⟨55,.int 55 240,.str "lui" 238⟩,⟨23,.int 23 244,.str "auipc" 242⟩,⟨111,.int 111 248,.str "jal" 246⟩,⟨103,.int 103 252,.str "jalr" 250⟩,⟨99,.int 99 256,.str "beq" 254⟩,⟨4195,.int 4195 260,.str "bne" 258⟩,⟨16483,.int 16483 264,.str "blt" 262⟩,⟨20579,.int 20579 268,.str "bge" 266⟩,⟨24675,.int 24675 272,.str "bltu" 270⟩,⟨28771,.int 28771 276,.str "bgeu" 274⟩,⟨3,.int 3 280,.str "lb" 278⟩,⟨4099,.int 4099 284,.str "lh" 282⟩,⟨8195,.int 8195 288,.str "lw" 286⟩,⟨16387,.int 16387 292,.str "lbu" 290⟩,⟨20483,.int 20483 296,.str "lhu" 294⟩,⟨35,.int 35 300,.str "sb" 298⟩,⟨4131,.int 4131 304,.str "sh" 302⟩,⟨8227,.int 8227 308,.str "sw" 306⟩,⟨19,.int 19 312,.str "addi" 310⟩,⟨8211,.int 8211 316,.str "slti" 314⟩,⟨12307,.int 12307 320,.str "sltiu" 318⟩,⟨16403,.int 16403 324,.str "xori" 322⟩,⟨24595,.int 24595 328,.str "ori" 326⟩,⟨28691,.int 28691 332,.str "andi" 330⟩,⟨4115,.int 4115 336,.str "slli" 334⟩,⟨20499,.int 20499 340,.str "srli" 338⟩,⟨1073762323,.int 1073762323 344,.str "srai" 342⟩,⟨51,.int 51 348,.str "add" 346⟩,⟨1073741875,.int 1073741875 352,.str "sub" 350⟩,⟨4147,.int 4147 356,.str "sll" 354⟩,⟨8243,.int 8243 360,.str "slt" 358⟩,⟨12339,.int 12339 364,.str "sltu" 362⟩,⟨16435,.int 16435 368,.str "xor" 366⟩,⟨20531,.int 20531 372,.str "srl" 370⟩,⟨1073762355,.int 1073762355 376,.str "sra" 374⟩,⟨24627,.int 24627 379,.str "or" 377⟩,⟨28723,.int 28723 382,.str "and" 380⟩,⟨33554483,.int 33554483 385,.str "mul" 383⟩,⟨33558579,.int 33558579 388,.str "mulh" 386⟩,⟨33562675,.int 33562675 391,.str "mulhsu" 389⟩,⟨33566771,.int 33566771 394,.str "mulhu" 392⟩,⟨33570867,.int 33570867 397,.str "div" 395⟩,⟨33574963,.int 33574963 400,.str "divu" 398⟩,⟨33579059,.int 33579059 403,.str "rem" 401⟩,⟨33583155,.int 33583155 406,.str "remu" 404⟩,⟨15,.int 15 409,.str "fence" 407⟩,⟨115,.int 115 412,.str "ecall" 410⟩,⟨1048691,.int 1048691 415,.str "ebreak" 413⟩] 48,#[]⟩
noncomputable abbrev od121 (P : Params) : Obj := ⟨.type "dict",.none,.dict #[] 4,#[]⟩
noncomputable abbrev od122 (P : Params) : Obj := ⟨.type "tuple",.none,.seq #[.str "lui" 238,.ref 17] 0,#[]⟩
noncomputable abbrev od123 (P : Params) : Obj := ⟨.type "tuple_iterator",.none,.fields #[.none,.int 2 0],#[]⟩
noncomputable abbrev od124 (P : Params) : Obj := ⟨.type "tuple",.none,.seq #[] 0,#[]⟩
noncomputable abbrev od125 (P : Params) : Obj := ⟨.type "StopIteration",.none,.fields #[.ref 124,.none,.none,.none,.bool false,.none],#[]⟩
noncomputable abbrev od126 (P : Params) : Obj := ⟨.type "tuple",.none,.seq #[.str "auipc" 242,.ref 18] 0,#[]⟩
noncomputable abbrev od127 (P : Params) : Obj := ⟨.type "tuple_iterator",.none,.fields #[.none,.int 2 0],#[]⟩
noncomputable abbrev od128 (P : Params) : Obj := ⟨.type "tuple",.none,.seq #[] 0,#[]⟩
noncomputable abbrev od129 (P : Params) : Obj := ⟨.type "StopIteration",.none,.fields #[.ref 128,.none,.none,.none,.bool false,.none],#[]⟩
noncomputable abbrev od130 (P : Params) : Obj := ⟨.type "tuple",.none,.seq #[.str "jal" 246,.ref 19] 0,#[]⟩
noncomputable abbrev od131 (P : Params) : Obj := ⟨.type "tuple_iterator",.none,.fields #[.none,.int 2 0],#[]⟩
noncomputable abbrev od132 (P : Params) : Obj := ⟨.type "tuple",.none,.seq #[] 0,#[]⟩
noncomputable abbrev od133 (P : Params) : Obj := ⟨.type "StopIteration",.none,.fields #[.ref 132,.none,.none,.none,.bool false,.none],#[]⟩
noncomputable abbrev od134 (P : Params) : Obj := ⟨.type "tuple",.none,.seq #[.str "jalr" 250,.ref 20] 0,#[]⟩
noncomputable abbrev od135 (P : Params) : Obj := ⟨.type "tuple_iterator",.none,.fields #[.none,.int 2 0],#[]⟩
noncomputable abbrev od136 (P : Params) : Obj := ⟨.type "tuple",.none,.seq #[] 0,#[]⟩
noncomputable abbrev od137 (P : Params) : Obj := ⟨.type "StopIteration",.none,.fields #[.ref 136,.none,.none,.none,.bool false,.none],#[]⟩
noncomputable abbrev od138 (P : Params) : Obj := ⟨.type "tuple",.none,.seq #[.str "beq" 254,.ref 21] 0,#[]⟩
noncomputable abbrev od139 (P : Params) : Obj := ⟨.type "tuple_iterator",.none,.fields #[.none,.int 2 0],#[]⟩
noncomputable abbrev od140 (P : Params) : Obj := ⟨.type "tuple",.none,.seq #[] 0,#[]⟩
noncomputable abbrev od141 (P : Params) : Obj := ⟨.type "StopIteration",.none,.fields #[.ref 140,.none,.none,.none,.bool false,.none],#[]⟩
noncomputable abbrev od142 (P : Params) : Obj := ⟨.type "tuple",.none,.seq #[.str "bne" 258,.ref 22] 0,#[]⟩
noncomputable abbrev od143 (P : Params) : Obj := ⟨.type "tuple_iterator",.none,.fields #[.none,.int 2 0],#[]⟩
noncomputable abbrev od144 (P : Params) : Obj := ⟨.type "tuple",.none,.seq #[] 0,#[]⟩
noncomputable abbrev od145 (P : Params) : Obj := ⟨.type "StopIteration",.none,.fields #[.ref 144,.none,.none,.none,.bool false,.none],#[]⟩
noncomputable abbrev od146 (P : Params) : Obj := ⟨.type "tuple",.none,.seq #[.str "blt" 262,.ref 23] 0,#[]⟩
noncomputable abbrev od147 (P : Params) : Obj := ⟨.type "tuple_iterator",.none,.fields #[.none,.int 2 0],#[]⟩
noncomputable abbrev od148 (P : Params) : Obj := ⟨.type "tuple",.none,.seq #[] 0,#[]⟩
noncomputable abbrev od149 (P : Params) : Obj := ⟨.type "StopIteration",.none,.fields #[.ref 148,.none,.none,.none,.bool false,.none],#[]⟩
noncomputable abbrev od150 (P : Params) : Obj := ⟨.type "tuple",.none,.seq #[.str "bge" 266,.ref 24] 0,#[]⟩
noncomputable abbrev od151 (P : Params) : Obj := ⟨.type "tuple_iterator",.none,.fields #[.none,.int 2 0],#[]⟩
noncomputable abbrev od152 (P : Params) : Obj := ⟨.type "tuple",.none,.seq #[] 0,#[]⟩
noncomputable abbrev od153 (P : Params) : Obj := ⟨.type "StopIteration",.none,.fields #[.ref 152,.none,.none,.none,.bool false,.none],#[]⟩
noncomputable abbrev od154 (P : Params) : Obj := ⟨.type "tuple",.none,.seq #[.str "bltu" 270,.ref 25] 0,#[]⟩
noncomputable abbrev od155 (P : Params) : Obj := ⟨.type "tuple_iterator",.none,.fields #[.none,.int 2 0],#[]⟩
noncomputable abbrev od156 (P : Params) : Obj := ⟨.type "tuple",.none,.seq #[] 0,#[]⟩
noncomputable abbrev od157 (P : Params) : Obj := ⟨.type "StopIteration",.none,.fields #[.ref 156,.none,.none,.none,.bool false,.none],#[]⟩
noncomputable abbrev od158 (P : Params) : Obj := ⟨.type "tuple",.none,.seq #[.str "bgeu" 274,.ref 26] 0,#[]⟩
noncomputable abbrev od159 (P : Params) : Obj := ⟨.type "tuple_iterator",.none,.fields #[.none,.int 2 0],#[]⟩
noncomputable abbrev od160 (P : Params) : Obj := ⟨.type "tuple",.none,.seq #[] 0,#[]⟩
noncomputable abbrev od161 (P : Params) : Obj := ⟨.type "StopIteration",.none,.fields #[.ref 160,.none,.none,.none,.bool false,.none],#[]⟩
noncomputable abbrev od162 (P : Params) : Obj := ⟨.type "tuple",.none,.seq #[.str "lb" 278,.ref 27] 0,#[]⟩
noncomputable abbrev od163 (P : Params) : Obj := ⟨.type "tuple_iterator",.none,.fields #[.none,.int 2 0],#[]⟩
noncomputable abbrev od164 (P : Params) : Obj := ⟨.type "tuple",.none,.seq #[] 0,#[]⟩
noncomputable abbrev od165 (P : Params) : Obj := ⟨.type "StopIteration",.none,.fields #[.ref 164,.none,.none,.none,.bool false,.none],#[]⟩
noncomputable abbrev od166 (P : Params) : Obj := ⟨.type "tuple",.none,.seq #[.str "lh" 282,.ref 28] 0,#[]⟩
noncomputable abbrev od167 (P : Params) : Obj := ⟨.type "tuple_iterator",.none,.fields #[.none,.int 2 0],#[]⟩
noncomputable abbrev od168 (P : Params) : Obj := ⟨.type "tuple",.none,.seq #[] 0,#[]⟩
noncomputable abbrev od169 (P : Params) : Obj := ⟨.type "StopIteration",.none,.fields #[.ref 168,.none,.none,.none,.bool false,.none],#[]⟩
noncomputable abbrev od170 (P : Params) : Obj := ⟨.type "tuple",.none,.seq #[.str "lw" 286,.ref 29] 0,#[]⟩
noncomputable abbrev od171 (P : Params) : Obj := ⟨.type "tuple_iterator",.none,.fields #[.none,.int 2 0],#[]⟩
noncomputable abbrev od172 (P : Params) : Obj := ⟨.type "tuple",.none,.seq #[] 0,#[]⟩
noncomputable abbrev od173 (P : Params) : Obj := ⟨.type "StopIteration",.none,.fields #[.ref 172,.none,.none,.none,.bool false,.none],#[]⟩
noncomputable abbrev od174 (P : Params) : Obj := ⟨.type "tuple",.none,.seq #[.str "lbu" 290,.ref 30] 0,#[]⟩
noncomputable abbrev od175 (P : Params) : Obj := ⟨.type "tuple_iterator",.none,.fields #[.none,.int 2 0],#[]⟩
noncomputable abbrev od176 (P : Params) : Obj := ⟨.type "tuple",.none,.seq #[] 0,#[]⟩
noncomputable abbrev od177 (P : Params) : Obj := ⟨.type "StopIteration",.none,.fields #[.ref 176,.none,.none,.none,.bool false,.none],#[]⟩
noncomputable abbrev od178 (P : Params) : Obj := ⟨.type "tuple",.none,.seq #[.str "lhu" 294,.ref 31] 0,#[]⟩
noncomputable abbrev od179 (P : Params) : Obj := ⟨.type "tuple_iterator",.none,.fields #[.none,.int 2 0],#[]⟩
noncomputable abbrev od180 (P : Params) : Obj := ⟨.type "tuple",.none,.seq #[] 0,#[]⟩
noncomputable abbrev od181 (P : Params) : Obj := ⟨.type "StopIteration",.none,.fields #[.ref 180,.none,.none,.none,.bool false,.none],#[]⟩
noncomputable abbrev od182 (P : Params) : Obj := ⟨.type "tuple",.none,.seq #[.str "sb" 298,.ref 32] 0,#[]⟩
noncomputable abbrev od183 (P : Params) : Obj := ⟨.type "tuple_iterator",.none,.fields #[.none,.int 2 0],#[]⟩
noncomputable abbrev od184 (P : Params) : Obj := ⟨.type "tuple",.none,.seq #[] 0,#[]⟩
noncomputable abbrev od185 (P : Params) : Obj := ⟨.type "StopIteration",.none,.fields #[.ref 184,.none,.none,.none,.bool false,.none],#[]⟩
noncomputable abbrev od186 (P : Params) : Obj := ⟨.type "tuple",.none,.seq #[.str "sh" 302,.ref 33] 0,#[]⟩
noncomputable abbrev od187 (P : Params) : Obj := ⟨.type "tuple_iterator",.none,.fields #[.none,.int 2 0],#[]⟩
noncomputable abbrev od188 (P : Params) : Obj := ⟨.type "tuple",.none,.seq #[] 0,#[]⟩
noncomputable abbrev od189 (P : Params) : Obj := ⟨.type "StopIteration",.none,.fields #[.ref 188,.none,.none,.none,.bool false,.none],#[]⟩
noncomputable abbrev od190 (P : Params) : Obj := ⟨.type "tuple",.none,.seq #[.str "sw" 306,.ref 35] 0,#[]⟩
noncomputable abbrev od191 (P : Params) : Obj := ⟨.type "tuple_iterator",.none,.fields #[.none,.int 2 0],#[]⟩
noncomputable abbrev od192 (P : Params) : Obj := ⟨.type "tuple",.none,.seq #[] 0,#[]⟩
noncomputable abbrev od193 (P : Params) : Obj := ⟨.type "StopIteration",.none,.fields #[.ref 192,.none,.none,.none,.bool false,.none],#[]⟩
noncomputable abbrev od194 (P : Params) : Obj := ⟨.type "tuple",.none,.seq #[.str "addi" 310,.ref 36] 0,#[]⟩
noncomputable abbrev od195 (P : Params) : Obj := ⟨.type "tuple_iterator",.none,.fields #[.none,.int 2 0],#[]⟩
noncomputable abbrev od196 (P : Params) : Obj := ⟨.type "tuple",.none,.seq #[] 0,#[]⟩
noncomputable abbrev od197 (P : Params) : Obj := ⟨.type "StopIteration",.none,.fields #[.ref 196,.none,.none,.none,.bool false,.none],#[]⟩
noncomputable abbrev od198 (P : Params) : Obj := ⟨.type "tuple",.none,.seq #[.str "slti" 314,.ref 37] 0,#[]⟩
noncomputable abbrev od199 (P : Params) : Obj := ⟨.type "tuple_iterator",.none,.fields #[.none,.int 2 0],#[]⟩
noncomputable abbrev od200 (P : Params) : Obj := ⟨.type "tuple",.none,.seq #[] 0,#[]⟩
noncomputable abbrev od201 (P : Params) : Obj := ⟨.type "StopIteration",.none,.fields #[.ref 200,.none,.none,.none,.bool false,.none],#[]⟩
noncomputable abbrev od202 (P : Params) : Obj := ⟨.type "tuple",.none,.seq #[.str "sltiu" 318,.ref 38] 0,#[]⟩
noncomputable abbrev od203 (P : Params) : Obj := ⟨.type "tuple_iterator",.none,.fields #[.none,.int 2 0],#[]⟩
noncomputable abbrev od204 (P : Params) : Obj := ⟨.type "tuple",.none,.seq #[] 0,#[]⟩
noncomputable abbrev od205 (P : Params) : Obj := ⟨.type "StopIteration",.none,.fields #[.ref 204,.none,.none,.none,.bool false,.none],#[]⟩
noncomputable abbrev od206 (P : Params) : Obj := ⟨.type "tuple",.none,.seq #[.str "xori" 322,.ref 39] 0,#[]⟩
noncomputable abbrev od207 (P : Params) : Obj := ⟨.type "tuple_iterator",.none,.fields #[.none,.int 2 0],#[]⟩
noncomputable abbrev od208 (P : Params) : Obj := ⟨.type "tuple",.none,.seq #[] 0,#[]⟩
noncomputable abbrev od209 (P : Params) : Obj := ⟨.type "StopIteration",.none,.fields #[.ref 208,.none,.none,.none,.bool false,.none],#[]⟩
noncomputable abbrev od210 (P : Params) : Obj := ⟨.type "tuple",.none,.seq #[.str "ori" 326,.ref 40] 0,#[]⟩
noncomputable abbrev od211 (P : Params) : Obj := ⟨.type "tuple_iterator",.none,.fields #[.none,.int 2 0],#[]⟩
noncomputable abbrev od212 (P : Params) : Obj := ⟨.type "tuple",.none,.seq #[] 0,#[]⟩
noncomputable abbrev od213 (P : Params) : Obj := ⟨.type "StopIteration",.none,.fields #[.ref 212,.none,.none,.none,.bool false,.none],#[]⟩
noncomputable abbrev od214 (P : Params) : Obj := ⟨.type "tuple",.none,.seq #[.str "andi" 330,.ref 41] 0,#[]⟩
noncomputable abbrev od215 (P : Params) : Obj := ⟨.type "tuple_iterator",.none,.fields #[.none,.int 2 0],#[]⟩
noncomputable abbrev od216 (P : Params) : Obj := ⟨.type "tuple",.none,.seq #[] 0,#[]⟩
noncomputable abbrev od217 (P : Params) : Obj := ⟨.type "StopIteration",.none,.fields #[.ref 216,.none,.none,.none,.bool false,.none],#[]⟩
noncomputable abbrev od218 (P : Params) : Obj := ⟨.type "tuple",.none,.seq #[.str "slli" 334,.ref 42] 0,#[]⟩
noncomputable abbrev od219 (P : Params) : Obj := ⟨.type "tuple_iterator",.none,.fields #[.none,.int 2 0],#[]⟩
noncomputable abbrev od220 (P : Params) : Obj := ⟨.type "tuple",.none,.seq #[] 0,#[]⟩
noncomputable abbrev od221 (P : Params) : Obj := ⟨.type "StopIteration",.none,.fields #[.ref 220,.none,.none,.none,.bool false,.none],#[]⟩
noncomputable abbrev od222 (P : Params) : Obj := ⟨.type "tuple",.none,.seq #[.str "srli" 338,.ref 43] 0,#[]⟩
noncomputable abbrev od223 (P : Params) : Obj := ⟨.type "tuple_iterator",.none,.fields #[.none,.int 2 0],#[]⟩
noncomputable abbrev od224 (P : Params) : Obj := ⟨.type "tuple",.none,.seq #[] 0,#[]⟩
noncomputable abbrev od225 (P : Params) : Obj := ⟨.type "StopIteration",.none,.fields #[.ref 224,.none,.none,.none,.bool false,.none],#[]⟩
noncomputable abbrev od226 (P : Params) : Obj := ⟨.type "tuple",.none,.seq #[.str "srai" 342,.ref 44] 0,#[]⟩
noncomputable abbrev od227 (P : Params) : Obj := ⟨.type "tuple_iterator",.none,.fields #[.none,.int 2 0],#[]⟩
noncomputable abbrev od228 (P : Params) : Obj := ⟨.type "tuple",.none,.seq #[] 0,#[]⟩
noncomputable abbrev od229 (P : Params) : Obj := ⟨.type "StopIteration",.none,.fields #[.ref 228,.none,.none,.none,.bool false,.none],#[]⟩
noncomputable abbrev od230 (P : Params) : Obj := ⟨.type "tuple",.none,.seq #[.str "add" 346,.ref 45] 0,#[]⟩
noncomputable abbrev od231 (P : Params) : Obj := ⟨.type "tuple_iterator",.none,.fields #[.none,.int 2 0],#[]⟩
noncomputable abbrev od232 (P : Params) : Obj := ⟨.type "tuple",.none,.seq #[] 0,#[]⟩
noncomputable abbrev od233 (P : Params) : Obj := ⟨.type "StopIteration",.none,.fields #[.ref 232,.none,.none,.none,.bool false,.none],#[]⟩
noncomputable abbrev od234 (P : Params) : Obj := ⟨.type "tuple",.none,.seq #[.str "sub" 350,.ref 46] 0,#[]⟩
noncomputable abbrev od235 (P : Params) : Obj := ⟨.type "tuple_iterator",.none,.fields #[.none,.int 2 0],#[]⟩
noncomputable abbrev od236 (P : Params) : Obj := ⟨.type "tuple",.none,.seq #[] 0,#[]⟩
noncomputable abbrev od237 (P : Params) : Obj := ⟨.type "StopIteration",.none,.fields #[.ref 236,.none,.none,.none,.bool false,.none],#[]⟩
noncomputable abbrev od238 (P : Params) : Obj := ⟨.type "tuple",.none,.seq #[.str "sll" 354,.ref 47] 0,#[]⟩
noncomputable abbrev od239 (P : Params) : Obj := ⟨.type "tuple_iterator",.none,.fields #[.none,.int 2 0],#[]⟩
noncomputable abbrev od240 (P : Params) : Obj := ⟨.type "tuple",.none,.seq #[] 0,#[]⟩
noncomputable abbrev od241 (P : Params) : Obj := ⟨.type "StopIteration",.none,.fields #[.ref 240,.none,.none,.none,.bool false,.none],#[]⟩
noncomputable abbrev od242 (P : Params) : Obj := ⟨.type "tuple",.none,.seq #[.str "slt" 358,.ref 48] 0,#[]⟩
noncomputable abbrev od243 (P : Params) : Obj := ⟨.type "tuple_iterator",.none,.fields #[.none,.int 2 0],#[]⟩
noncomputable abbrev od244 (P : Params) : Obj := ⟨.type "tuple",.none,.seq #[] 0,#[]⟩
noncomputable abbrev od245 (P : Params) : Obj := ⟨.type "StopIteration",.none,.fields #[.ref 244,.none,.none,.none,.bool false,.none],#[]⟩
noncomputable abbrev od246 (P : Params) : Obj := ⟨.type "tuple",.none,.seq #[.str "sltu" 362,.ref 49] 0,#[]⟩
noncomputable abbrev od247 (P : Params) : Obj := ⟨.type "tuple_iterator",.none,.fields #[.none,.int 2 0],#[]⟩
noncomputable abbrev od248 (P : Params) : Obj := ⟨.type "tuple",.none,.seq #[] 0,#[]⟩
noncomputable abbrev od249 (P : Params) : Obj := ⟨.type "StopIteration",.none,.fields #[.ref 248,.none,.none,.none,.bool false,.none],#[]⟩
noncomputable abbrev od250 (P : Params) : Obj := ⟨.type "tuple",.none,.seq #[.str "xor" 366,.ref 50] 0,#[]⟩
noncomputable abbrev od251 (P : Params) : Obj := ⟨.type "tuple_iterator",.none,.fields #[.none,.int 2 0],#[]⟩
noncomputable abbrev od252 (P : Params) : Obj := ⟨.type "tuple",.none,.seq #[] 0,#[]⟩
noncomputable abbrev od253 (P : Params) : Obj := ⟨.type "StopIteration",.none,.fields #[.ref 252,.none,.none,.none,.bool false,.none],#[]⟩
noncomputable abbrev od254 (P : Params) : Obj := ⟨.type "tuple",.none,.seq #[.str "srl" 370,.ref 51] 0,#[]⟩
noncomputable abbrev od255 (P : Params) : Obj := ⟨.type "tuple_iterator",.none,.fields #[.none,.int 2 0],#[]⟩
noncomputable abbrev od256 (P : Params) : Obj := ⟨.type "tuple",.none,.seq #[] 0,#[]⟩
noncomputable abbrev od257 (P : Params) : Obj := ⟨.type "StopIteration",.none,.fields #[.ref 256,.none,.none,.none,.bool false,.none],#[]⟩
noncomputable abbrev od258 (P : Params) : Obj := ⟨.type "tuple",.none,.seq #[.str "sra" 374,.ref 53] 0,#[]⟩
noncomputable abbrev od259 (P : Params) : Obj := ⟨.type "tuple_iterator",.none,.fields #[.none,.int 2 0],#[]⟩
noncomputable abbrev od260 (P : Params) : Obj := ⟨.type "tuple",.none,.seq #[] 0,#[]⟩
noncomputable abbrev od261 (P : Params) : Obj := ⟨.type "StopIteration",.none,.fields #[.ref 260,.none,.none,.none,.bool false,.none],#[]⟩
noncomputable abbrev od262 (P : Params) : Obj := ⟨.type "tuple",.none,.seq #[.str "or" 377,.ref 54] 0,#[]⟩
noncomputable abbrev od263 (P : Params) : Obj := ⟨.type "tuple_iterator",.none,.fields #[.none,.int 2 0],#[]⟩
noncomputable abbrev od264 (P : Params) : Obj := ⟨.type "tuple",.none,.seq #[] 0,#[]⟩
noncomputable abbrev od265 (P : Params) : Obj := ⟨.type "StopIteration",.none,.fields #[.ref 264,.none,.none,.none,.bool false,.none],#[]⟩
noncomputable abbrev od266 (P : Params) : Obj := ⟨.type "tuple",.none,.seq #[.str "and" 380,.ref 55] 0,#[]⟩
noncomputable abbrev od267 (P : Params) : Obj := ⟨.type "tuple_iterator",.none,.fields #[.none,.int 2 0],#[]⟩
noncomputable abbrev od268 (P : Params) : Obj := ⟨.type "tuple",.none,.seq #[] 0,#[]⟩
noncomputable abbrev od269 (P : Params) : Obj := ⟨.type "StopIteration",.none,.fields #[.ref 268,.none,.none,.none,.bool false,.none],#[]⟩
noncomputable abbrev od270 (P : Params) : Obj := ⟨.type "tuple",.none,.seq #[.str "mul" 383,.ref 56] 0,#[]⟩
noncomputable abbrev od271 (P : Params) : Obj := ⟨.type "tuple_iterator",.none,.fields #[.none,.int 2 0],#[]⟩
noncomputable abbrev od272 (P : Params) : Obj := ⟨.type "tuple",.none,.seq #[] 0,#[]⟩
noncomputable abbrev od273 (P : Params) : Obj := ⟨.type "StopIteration",.none,.fields #[.ref 272,.none,.none,.none,.bool false,.none],#[]⟩
noncomputable abbrev od274 (P : Params) : Obj := ⟨.type "tuple",.none,.seq #[.str "mulh" 386,.ref 57] 0,#[]⟩
noncomputable abbrev od275 (P : Params) : Obj := ⟨.type "tuple_iterator",.none,.fields #[.none,.int 2 0],#[]⟩
noncomputable abbrev od276 (P : Params) : Obj := ⟨.type "tuple",.none,.seq #[] 0,#[]⟩
noncomputable abbrev od277 (P : Params) : Obj := ⟨.type "StopIteration",.none,.fields #[.ref 276,.none,.none,.none,.bool false,.none],#[]⟩
noncomputable abbrev od278 (P : Params) : Obj := ⟨.type "tuple",.none,.seq #[.str "mulhsu" 389,.ref 58] 0,#[]⟩
noncomputable abbrev od279 (P : Params) : Obj := ⟨.type "tuple_iterator",.none,.fields #[.none,.int 2 0],#[]⟩
noncomputable abbrev od280 (P : Params) : Obj := ⟨.type "tuple",.none,.seq #[] 0,#[]⟩
noncomputable abbrev od281 (P : Params) : Obj := ⟨.type "StopIteration",.none,.fields #[.ref 280,.none,.none,.none,.bool false,.none],#[]⟩
noncomputable abbrev od282 (P : Params) : Obj := ⟨.type "tuple",.none,.seq #[.str "mulhu" 392,.ref 59] 0,#[]⟩
noncomputable abbrev od283 (P : Params) : Obj := ⟨.type "tuple_iterator",.none,.fields #[.none,.int 2 0],#[]⟩
noncomputable abbrev od284 (P : Params) : Obj := ⟨.type "tuple",.none,.seq #[] 0,#[]⟩
noncomputable abbrev od285 (P : Params) : Obj := ⟨.type "StopIteration",.none,.fields #[.ref 284,.none,.none,.none,.bool false,.none],#[]⟩
noncomputable abbrev od286 (P : Params) : Obj := ⟨.type "tuple",.none,.seq #[.str "div" 395,.ref 60] 0,#[]⟩
noncomputable abbrev od287 (P : Params) : Obj := ⟨.type "tuple_iterator",.none,.fields #[.none,.int 2 0],#[]⟩
noncomputable abbrev od288 (P : Params) : Obj := ⟨.type "tuple",.none,.seq #[] 0,#[]⟩
noncomputable abbrev od289 (P : Params) : Obj := ⟨.type "StopIteration",.none,.fields #[.ref 288,.none,.none,.none,.bool false,.none],#[]⟩
noncomputable abbrev od290 (P : Params) : Obj := ⟨.type "tuple",.none,.seq #[.str "divu" 398,.ref 61] 0,#[]⟩
noncomputable abbrev od291 (P : Params) : Obj := ⟨.type "tuple_iterator",.none,.fields #[.none,.int 2 0],#[]⟩
noncomputable abbrev od292 (P : Params) : Obj := ⟨.type "tuple",.none,.seq #[] 0,#[]⟩
noncomputable abbrev od293 (P : Params) : Obj := ⟨.type "StopIteration",.none,.fields #[.ref 292,.none,.none,.none,.bool false,.none],#[]⟩
noncomputable abbrev od294 (P : Params) : Obj := ⟨.type "tuple",.none,.seq #[.str "rem" 401,.ref 62] 0,#[]⟩
noncomputable abbrev od295 (P : Params) : Obj := ⟨.type "tuple_iterator",.none,.fields #[.none,.int 2 0],#[]⟩
noncomputable abbrev od296 (P : Params) : Obj := ⟨.type "tuple",.none,.seq #[] 0,#[]⟩
noncomputable abbrev od297 (P : Params) : Obj := ⟨.type "StopIteration",.none,.fields #[.ref 296,.none,.none,.none,.bool false,.none],#[]⟩
noncomputable abbrev od298 (P : Params) : Obj := ⟨.type "tuple",.none,.seq #[.str "remu" 404,.ref 63] 0,#[]⟩
noncomputable abbrev od299 (P : Params) : Obj := ⟨.type "tuple_iterator",.none,.fields #[.none,.int 2 0],#[]⟩
noncomputable abbrev od300 (P : Params) : Obj := ⟨.type "tuple",.none,.seq #[] 0,#[]⟩
noncomputable abbrev od301 (P : Params) : Obj := ⟨.type "StopIteration",.none,.fields #[.ref 300,.none,.none,.none,.bool false,.none],#[]⟩
noncomputable abbrev od302 (P : Params) : Obj := ⟨.type "tuple",.none,.seq #[.str "fence" 407,.ref 64] 0,#[]⟩
noncomputable abbrev od303 (P : Params) : Obj := ⟨.type "tuple_iterator",.none,.fields #[.none,.int 2 0],#[]⟩
noncomputable abbrev od304 (P : Params) : Obj := ⟨.type "tuple",.none,.seq #[] 0,#[]⟩
noncomputable abbrev od305 (P : Params) : Obj := ⟨.type "StopIteration",.none,.fields #[.ref 304,.none,.none,.none,.bool false,.none],#[]⟩
noncomputable abbrev od306 (P : Params) : Obj := ⟨.type "tuple",.none,.seq #[.str "ecall" 410,.ref 65] 0,#[]⟩
noncomputable abbrev od307 (P : Params) : Obj := ⟨.type "tuple_iterator",.none,.fields #[.none,.int 2 0],#[]⟩
noncomputable abbrev od308 (P : Params) : Obj := ⟨.type "tuple",.none,.seq #[] 0,#[]⟩
noncomputable abbrev od309 (P : Params) : Obj := ⟨.type "StopIteration",.none,.fields #[.ref 308,.none,.none,.none,.bool false,.none],#[]⟩
noncomputable abbrev od310 (P : Params) : Obj := ⟨.type "tuple",.none,.seq #[.str "ebreak" 413,.ref 66] 0,#[]⟩
noncomputable abbrev od311 (P : Params) : Obj := ⟨.type "tuple_iterator",.none,.fields #[.none,.int 2 0],#[]⟩
noncomputable abbrev od312 (P : Params) : Obj := ⟨.type "tuple",.none,.seq #[] 0,#[]⟩
noncomputable abbrev od313 (P : Params) : Obj := ⟨.type "StopIteration",.none,.fields #[.ref 312,.none,.none,.none,.bool false,.none],#[]⟩
noncomputable abbrev od314 (P : Params) : Obj := ⟨.type "tuple",.none,.seq #[] 0,#[]⟩
noncomputable abbrev od315 (P : Params) : Obj := ⟨.type "StopIteration",.none,.fields #[.ref 314,.none,.none,.none,.bool false,.none],#[]⟩
noncomputable abbrev tD_15 (P : Params) : BT := (.node (oc15 P) (.node (oc31 P) (.node (oc63 P) (.node (od127 P) (.node (od255 P) .nil .nil) .nil) (.node (od191 P) .nil .nil)) (.node (oc95 P) (.node (od159 P) (.node (od287 P) .nil .nil) .nil) (.node (od223 P) .nil .nil))) (.node (oc47 P) (.node (oc79 P) (.node (od143 P) (.node (od271 P) .nil .nil) .nil) (.node (od207 P) .nil .nil)) (.node (oc111 P) (.node (od175 P) (.node (od303 P) .nil .nil) .nil) (.node (od239 P) .nil .nil))))
noncomputable abbrev tD_23 (P : Params) : BT := (.node (oc23 P) (.node (oc39 P) (.node (oc71 P) (.node (od135 P) (.node (od263 P) .nil .nil) .nil) (.node (od199 P) .nil .nil)) (.node (oc103 P) (.node (od167 P) (.node (od295 P) .nil .nil) .nil) (.node (od231 P) .nil .nil))) (.node (oc55 P) (.node (oc87 P) (.node (od151 P) (.node (od279 P) .nil .nil) .nil) (.node (od215 P) .nil .nil)) (.node (od119 P) (.node (od183 P) (.node (od311 P) .nil .nil) .nil) (.node (od247 P) .nil .nil))))
noncomputable abbrev tD_19 (P : Params) : BT := (.node (oc19 P) (.node (oc35 P) (.node (oc67 P) (.node (od131 P) (.node (od259 P) .nil .nil) .nil) (.node (od195 P) .nil .nil)) (.node (oc99 P) (.node (od163 P) (.node (od291 P) .nil .nil) .nil) (.node (od227 P) .nil .nil))) (.node (oc51 P) (.node (oc83 P) (.node (od147 P) (.node (od275 P) .nil .nil) .nil) (.node (od211 P) .nil .nil)) (.node (oc115 P) (.node (od179 P) (.node (od307 P) .nil .nil) .nil) (.node (od243 P) .nil .nil))))
noncomputable abbrev tD_27 (P : Params) : BT := (.node (oc27 P) (.node (oc43 P) (.node (oc75 P) (.node (od139 P) (.node (od267 P) .nil .nil) .nil) (.node (od203 P) .nil .nil)) (.node (oc107 P) (.node (od171 P) (.node (od299 P) .nil .nil) .nil) (.node (od235 P) .nil .nil))) (.node (oc59 P) (.node (oc91 P) (.node (od155 P) (.node (od283 P) .nil .nil) .nil) (.node (od219 P) .nil .nil)) (.node (od123 P) (.node (od187 P) (.node (od315 P) .nil .nil) .nil) (.node (od251 P) .nil .nil))))
noncomputable abbrev tD_17 (P : Params) : BT := (.node (oc17 P) (.node (oc33 P) (.node (oc65 P) (.node (od129 P) (.node (od257 P) .nil .nil) .nil) (.node (od193 P) .nil .nil)) (.node (oc97 P) (.node (od161 P) (.node (od289 P) .nil .nil) .nil) (.node (od225 P) .nil .nil))) (.node (oc49 P) (.node (oc81 P) (.node (od145 P) (.node (od273 P) .nil .nil) .nil) (.node (od209 P) .nil .nil)) (.node (oc113 P) (.node (od177 P) (.node (od305 P) .nil .nil) .nil) (.node (od241 P) .nil .nil))))
noncomputable abbrev tD_25 (P : Params) : BT := (.node (oc25 P) (.node (oc41 P) (.node (oc73 P) (.node (od137 P) (.node (od265 P) .nil .nil) .nil) (.node (od201 P) .nil .nil)) (.node (oc105 P) (.node (od169 P) (.node (od297 P) .nil .nil) .nil) (.node (od233 P) .nil .nil))) (.node (oc57 P) (.node (oc89 P) (.node (od153 P) (.node (od281 P) .nil .nil) .nil) (.node (od217 P) .nil .nil)) (.node (od121 P) (.node (od185 P) (.node (od313 P) .nil .nil) .nil) (.node (od249 P) .nil .nil))))
noncomputable abbrev tD_21 (P : Params) : BT := (.node (oc21 P) (.node (oc37 P) (.node (oc69 P) (.node (od133 P) (.node (od261 P) .nil .nil) .nil) (.node (od197 P) .nil .nil)) (.node (oc101 P) (.node (od165 P) (.node (od293 P) .nil .nil) .nil) (.node (od229 P) .nil .nil))) (.node (oc53 P) (.node (oc85 P) (.node (od149 P) (.node (od277 P) .nil .nil) .nil) (.node (od213 P) .nil .nil)) (.node (od117 P) (.node (od181 P) (.node (od309 P) .nil .nil) .nil) (.node (od245 P) .nil .nil))))
noncomputable abbrev tD_29 (P : Params) : BT := (.node (oc29 P) (.node (oc45 P) (.node (oc77 P) (.node (od141 P) (.node (od269 P) .nil .nil) .nil) (.node (od205 P) .nil .nil)) (.node (oc109 P) (.node (od173 P) (.node (od301 P) .nil .nil) .nil) (.node (od237 P) .nil .nil))) (.node (oc61 P) (.node (oc93 P) (.node (od157 P) (.node (od285 P) .nil .nil) .nil) (.node (od221 P) .nil .nil)) (.node (od125 P) (.node (od189 P) .nil .nil) (.node (od253 P) .nil .nil))))
noncomputable abbrev tD_16 (P : Params) : BT := (.node (oc16 P) (.node (oc32 P) (.node (oc64 P) (.node (od128 P) (.node (od256 P) .nil .nil) .nil) (.node (od192 P) .nil .nil)) (.node (oc96 P) (.node (od160 P) (.node (od288 P) .nil .nil) .nil) (.node (od224 P) .nil .nil))) (.node (oc48 P) (.node (oc80 P) (.node (od144 P) (.node (od272 P) .nil .nil) .nil) (.node (od208 P) .nil .nil)) (.node (oc112 P) (.node (od176 P) (.node (od304 P) .nil .nil) .nil) (.node (od240 P) .nil .nil))))
noncomputable abbrev tD_24 (P : Params) : BT := (.node (oc24 P) (.node (oc40 P) (.node (oc72 P) (.node (od136 P) (.node (od264 P) .nil .nil) .nil) (.node (od200 P) .nil .nil)) (.node (oc104 P) (.node (od168 P) (.node (od296 P) .nil .nil) .nil) (.node (od232 P) .nil .nil))) (.node (oc56 P) (.node (oc88 P) (.node (od152 P) (.node (od280 P) .nil .nil) .nil) (.node (od216 P) .nil .nil)) (.node (od120 P) (.node (od184 P) (.node (od312 P) .nil .nil) .nil) (.node (od248 P) .nil .nil))))
noncomputable abbrev tD_20 (P : Params) : BT := (.node (oc20 P) (.node (oc36 P) (.node (oc68 P) (.node (od132 P) (.node (od260 P) .nil .nil) .nil) (.node (od196 P) .nil .nil)) (.node (oc100 P) (.node (od164 P) (.node (od292 P) .nil .nil) .nil) (.node (od228 P) .nil .nil))) (.node (oc52 P) (.node (oc84 P) (.node (od148 P) (.node (od276 P) .nil .nil) .nil) (.node (od212 P) .nil .nil)) (.node (oc116 P) (.node (od180 P) (.node (od308 P) .nil .nil) .nil) (.node (od244 P) .nil .nil))))
noncomputable abbrev tD_28 (P : Params) : BT := (.node (oc28 P) (.node (oc44 P) (.node (oc76 P) (.node (od140 P) (.node (od268 P) .nil .nil) .nil) (.node (od204 P) .nil .nil)) (.node (oc108 P) (.node (od172 P) (.node (od300 P) .nil .nil) .nil) (.node (od236 P) .nil .nil))) (.node (oc60 P) (.node (oc92 P) (.node (od156 P) (.node (od284 P) .nil .nil) .nil) (.node (od220 P) .nil .nil)) (.node (od124 P) (.node (od188 P) .nil .nil) (.node (od252 P) .nil .nil))))
noncomputable abbrev tD_18 (P : Params) : BT := (.node (oc18 P) (.node (oc34 P) (.node (oc66 P) (.node (od130 P) (.node (od258 P) .nil .nil) .nil) (.node (od194 P) .nil .nil)) (.node (oc98 P) (.node (od162 P) (.node (od290 P) .nil .nil) .nil) (.node (od226 P) .nil .nil))) (.node (oc50 P) (.node (oc82 P) (.node (od146 P) (.node (od274 P) .nil .nil) .nil) (.node (od210 P) .nil .nil)) (.node (oc114 P) (.node (od178 P) (.node (od306 P) .nil .nil) .nil) (.node (od242 P) .nil .nil))))
noncomputable abbrev tD_26 (P : Params) : BT := (.node (oc26 P) (.node (oc42 P) (.node (oc74 P) (.node (od138 P) (.node (od266 P) .nil .nil) .nil) (.node (od202 P) .nil .nil)) (.node (oc106 P) (.node (od170 P) (.node (od298 P) .nil .nil) .nil) (.node (od234 P) .nil .nil))) (.node (oc58 P) (.node (oc90 P) (.node (od154 P) (.node (od282 P) .nil .nil) .nil) (.node (od218 P) .nil .nil)) (.node (od122 P) (.node (od186 P) (.node (od314 P) .nil .nil) .nil) (.node (od250 P) .nil .nil))))
noncomputable abbrev tD_22 (P : Params) : BT := (.node (oc22 P) (.node (oc38 P) (.node (oc70 P) (.node (od134 P) (.node (od262 P) .nil .nil) .nil) (.node (od198 P) .nil .nil)) (.node (oc102 P) (.node (od166 P) (.node (od294 P) .nil .nil) .nil) (.node (od230 P) .nil .nil))) (.node (oc54 P) (.node (oc86 P) (.node (od150 P) (.node (od278 P) .nil .nil) .nil) (.node (od214 P) .nil .nil)) (.node (od118 P) (.node (od182 P) (.node (od310 P) .nil .nil) .nil) (.node (od246 P) .nil .nil))))
noncomputable abbrev tD_30 (P : Params) : BT := (.node (oc30 P) (.node (oc46 P) (.node (oc78 P) (.node (od142 P) (.node (od270 P) .nil .nil) .nil) (.node (od206 P) .nil .nil)) (.node (oc110 P) (.node (od174 P) (.node (od302 P) .nil .nil) .nil) (.node (od238 P) .nil .nil))) (.node (oc62 P) (.node (oc94 P) (.node (od158 P) (.node (od286 P) .nil .nil) .nil) (.node (od222 P) .nil .nil)) (.node (od126 P) (.node (od190 P) .nil .nil) (.node (od254 P) .nil .nil))))
noncomputable abbrev tD (P : Params) : BT := (.node (boot_o_0 P) (.node (boot_o_1 P) (.node (od3 P) (.node (boot_o_7 P) (tD_15 P) (tD_23 P)) (.node (oa11 P) (tD_19 P) (tD_27 P))) (.node (boot_o_5 P) (.node (boot_o_9 P) (tD_17 P) (tD_25 P)) (.node (oa13 P) (tD_21 P) (tD_29 P)))) (.node (boot_o_2 P) (.node (boot_o_4 P) (.node (boot_o_8 P) (tD_16 P) (tD_24 P)) (.node (oc12 P) (tD_20 P) (tD_28 P))) (.node (boot_o_6 P) (.node (boot_o_10 P) (tD_18 P) (tD_26 P)) (.node (oa14 P) (tD_22 P) (tD_30 P)))))
noncomputable abbrev sD (w : World) (os : OsState) : SharedT := ⟨tD w.params,316,⟨[],[],[],0,[],[],false,#[],[],0,false,false,false,0,[2000,10,10],false,0,true,[],[],0,false⟩,Array.mk [],⟨0,0,0,0⟩,733,os⟩
noncomputable abbrev oe3 (P : Params) : Obj := ⟨.type "dict",.none,(.dict #[⟨(PyData.keyHash P "__name__"),.str "__name__" 165,.str "law_nm0011_01" 874⟩,⟨(PyData.keyHash P "__doc__"),.str "__doc__" 166,.none⟩,⟨(PyData.keyHash P "__package__"),.str "__package__" 167,.none⟩,⟨(PyData.keyHash P "__loader__"),.str "__loader__" 168,.builtin "__main__.__loader__#opaque"⟩,⟨(PyData.keyHash P "__spec__"),.str "__spec__" 169,.none⟩,⟨(PyData.keyHash P "__annotations__"),.str "__annotations__" 170,.ref 6⟩,⟨(PyData.keyHash P "__builtins__"),.str "__builtins__" 171,.ref 4⟩,⟨(PyData.keyHash P "__file__"),.str "__file__" 173,.str "/claim/cut.py" 172⟩,⟨(PyData.keyHash P "__cached__"),.str "__cached__" 174,.none⟩,⟨(PyData.keyHash P "WORD_MASK"),.str "WORD_MASK" 188,.int 4294967295 187⟩,⟨(PyData.keyHash P "REGISTER_NAMES"),.str "REGISTER_NAMES" 223,.ref 15⟩,⟨(PyData.keyHash P "LUI"),.str "LUI" 225,.int 55 224⟩,⟨(PyData.keyHash P "AUIPC"),.str "AUIPC" 227,.int 23 226⟩,⟨(PyData.keyHash P "JAL"),.str "JAL" 229,.int 111 228⟩,⟨(PyData.keyHash P "WITH_IMM"),.str "WITH_IMM" 231,.int 19 230⟩,⟨(PyData.keyHash P "WITH_REG"),.str "WITH_REG" 233,.int 51 232⟩,⟨(PyData.keyHash P "FENCE"),.str "FENCE" 235,.int 15 234⟩,⟨(PyData.keyHash P "SYSTEM"),.str "SYSTEM" 237,.int 115 236⟩,⟨(PyData.keyHash P "INSTRUCTIONS"),.str "INSTRUCTIONS" 430,.ref 16⟩,⟨(PyData.keyHash P "PLACES"),.str "PLACES" 475,.ref 67⟩,⟨(PyData.keyHash P "BOUNDS"),.str "BOUNDS" 515,.ref 90⟩,⟨(PyData.keyHash P "signed"),.str "signed" 524,.ref 104⟩,⟨(PyData.keyHash P "imm_of"),.str "imm_of" 533,.ref 111⟩,⟨(PyData.keyHash P "names_by_base"),.str "names_by_base" 539,.ref 116⟩,⟨(PyData.keyHash P "NAMES_BY_BASE"),.str "NAMES_BY_BASE" 732,.ref 120⟩,⟨(PyData.keyHash P "name_of"),.str "name_of" 741,.ref 322⟩,⟨(PyData.keyHash P "decode"),.str "decode" 753,.ref 329⟩,⟨(PyData.keyHash P "DIGITS"),.str "DIGITS" 757,.str "0123456789abcdef" 756⟩,⟨(PyData.keyHash P "FENCE_BITS"),.str "FENCE_BITS" 766,.ref 334⟩,⟨(PyData.keyHash P "hexed"),.str "hexed" 772,.ref 339⟩,⟨(PyData.keyHash P "fence_set"),.str "fence_set" 778,.ref 344⟩,⟨(PyData.keyHash P "register"),.str "register" 786,.ref 351⟩,⟨(PyData.keyHash P "is_with_place"),.str "is_with_place" 793,.ref 358⟩,⟨(PyData.keyHash P "operands"),.str "operands" 803,.ref 365⟩,⟨(PyData.keyHash P "disassemble"),.str "disassemble" 814,.ref 372⟩,⟨(PyData.keyHash P "target_of"),.str "target_of" 823,.ref 379⟩,⟨(PyData.keyHash P "words_of"),.str "words_of" 829,.ref 384⟩,⟨(PyData.keyHash P "left_octets"),.str "left_octets" 835,.ref 389⟩,⟨(PyData.keyHash P "source_of"),.str "source_of" 845,.ref 396⟩,⟨(PyData.keyHash P "listing"),.str "listing" 859,.ref 403⟩,⟨(PyData.keyHash P "symbol_listing"),.str "symbol_listing" 873,.ref 410⟩,⟨(PyData.keyHash P "_law_GROUPS"),.str "_law_GROUPS" 889,.ref 411⟩,⟨(PyData.keyHash P "_law_CELLS"),.str "_law_CELLS" 891,.str "zero ra sp gp tp t0 t1 t2 s0 s1 a0 a1 a2 a3 a4 a5 a6 a7 s2 s3 s4 s5 s6 s7 s8 s9 s10 s11 t3 t4 t5 t6" 890⟩,⟨(PyData.keyHash P "_law_BRANCHES"),.str "_law_BRANCHES" 900,.ref 412⟩,⟨(PyData.keyHash P "_law_FETCHES"),.str "_law_FETCHES" 907,.ref 413⟩,⟨(PyData.keyHash P "_law_WITH_FIGURES"),.str "_law_WITH_FIGURES" 916,.ref 414⟩,⟨(PyData.keyHash P "_law_WITH_CELLS"),.str "_law_WITH_CELLS" 925,.ref 415⟩,⟨(PyData.keyHash P "_law_TIMES"),.str "_law_TIMES" 934,.ref 416⟩,⟨(PyData.keyHash P "_law_draw"),.str "_law_draw" 946,.ref 423⟩,⟨(PyData.keyHash P "_law_word"),.str "_law_word" 959,.ref 430⟩,⟨(PyData.keyHash P "_law_is_one"),.str "_law_is_one" 970,.ref 437⟩,⟨(PyData.keyHash P "_law_number"),.str "_law_number" 976,.ref 442⟩,⟨(PyData.keyHash P "_law_cell"),.str "_law_cell" 984,.ref 449⟩,⟨(PyData.keyHash P "_law_hexed"),.str "_law_hexed" 990,.ref 454⟩,⟨(PyData.keyHash P "_law_unhexed"),.str "_law_unhexed" 996,.ref 459⟩,⟨(PyData.keyHash P "_law_jump"),.str "_law_jump" 1002,.ref 464⟩,⟨(PyData.keyHash P "_law_moved"),.str "_law_moved" 1017,.ref 471⟩,⟨(PyData.keyHash P "_law_worked"),.str "_law_worked" 1029,.ref 478⟩,⟨(PyData.keyHash P "_law_read"),.str "_law_read" 1040,.ref 485⟩,⟨(PyData.keyHash P "_law_target"),.str "_law_target" 1049,.ref 492⟩,⟨(PyData.keyHash P "_law_rows"),.str "_law_rows" 1055,.ref 497⟩,⟨(PyData.keyHash P "_law_lists_right"),.str "_law_lists_right" 1061,.ref 502⟩,⟨(PyData.keyHash P "law"),.str "law" 1067,.ref 507⟩] 63),#[]⟩
noncomputable abbrev oe12 (P : Params) : Obj := ⟨.none,.none,.fields #[.int 14 0,.int 0 0,.ref 103,.int 17 0,.int 0 0,.ref 110,.int 33 0,.int 0 0,.ref 115,.int 36 0,.int 0 0,.ref 321,.int 47 0,.int 0 0,.ref 328,.int 61 0,.int 0 0,.ref 338,.int 63 0,.int 0 0,.ref 343,.int 66 0,.int 0 0,.ref 350,.int 68 0,.int 0 0,.ref 357,.int 70 0,.int 0 0,.ref 364,.int 86 0,.int 0 0,.ref 371,.int 93 0,.int 0 0,.ref 378,.int 98 0,.int 0 0,.ref 383,.int 100 0,.int 0 0,.ref 388,.int 103 0,.int 0 0,.ref 395,.int 111 0,.int 0 0,.ref 402,.int 123 0,.int 0 0,.ref 409,.int 141 0,.int 0 0,.ref 422,.int 147 0,.int 0 0,.ref 429,.int 162 0,.int 0 0,.ref 436,.int 176 0,.int 0 0,.ref 441,.int 181 0,.int 0 0,.ref 448,.int 184 0,.int 0 0,.ref 453,.int 186 0,.int 0 0,.ref 458,.int 191 0,.int 0 0,.ref 463,.int 207 0,.int 0 0,.ref 470,.int 217 0,.int 0 0,.ref 477,.int 230 0,.int 0 0,.ref 484,.int 242 0,.int 0 0,.ref 491,.int 246 0,.int 0 0,.ref 496,.int 257 0,.int 0 0,.ref 501,.int 272 0,.int 0 0,.ref 506],#[]⟩
noncomputable abbrev oe316 (P : Params) : Obj := ⟨.type "tuple",.none,.seq #[] 0,#[]⟩
noncomputable abbrev oe317 (P : Params) : Obj := ⟨.none,.none,.fields #[],#[]⟩
noncomputable abbrev oe318 (P : Params) : Obj := ⟨.type "tuple",.none,.seq #[.str "word" 736,.str "opcode" 737,.str "low" 738] 0,#[]⟩
noncomputable abbrev oe319 (P : Params) : Obj := ⟨.type "tuple",.none,.seq #[] 0,#[]⟩
noncomputable abbrev oe320 (P : Params) : Obj := C17
noncomputable abbrev oe321 (P : Params) : Obj := ⟨.type "code",.none,.fields #[.str "name_of" 733,.str "name_of" 734,.str "/claim/cut.py" 735,.int 36 0,.int 1 0,.int 0 0,.int 0 0,.int 3 0,.ref 316,.bool true,.int 181 0,.ref 317,.none,.ref 318,.ref 319,.ref 320,.int 739 0,.int 36 0,.str "/claim/cut.py" 740],#[]⟩
noncomputable abbrev oe322 (P : Params) : Obj := F17 (.str "corecc.rv32" 189) (.ref 321)
noncomputable abbrev oe323 (P : Params) : Obj := ⟨.type "tuple",.none,.seq #[] 0,#[]⟩
noncomputable abbrev oe324 (P : Params) : Obj := ⟨.none,.none,.fields #[],#[]⟩
noncomputable abbrev oe325 (P : Params) : Obj := ⟨.type "tuple",.none,.seq #[.str "word" 745,.str "name" 746,.str "form" 747,.str "fields" 748,.str "key" 749,.str "shift" 750] 0,#[]⟩
noncomputable abbrev oe326 (P : Params) : Obj := ⟨.type "tuple",.none,.seq #[] 0,#[]⟩
noncomputable abbrev oe327 (P : Params) : Obj := C18
noncomputable abbrev oe328 (P : Params) : Obj := ⟨.type "code",.none,.fields #[.str "decode" 742,.str "decode" 743,.str "/claim/cut.py" 744,.int 47 0,.int 1 0,.int 0 0,.int 0 0,.int 3 0,.ref 323,.bool true,.int 181 0,.ref 324,.none,.ref 325,.ref 326,.ref 327,.int 751 0,.int 47 0,.str "/claim/cut.py" 752],#[]⟩
noncomputable abbrev oe329 (P : Params) : Obj := F18 (.str "corecc.rv32" 189) (.ref 328)
noncomputable abbrev oe330 (P : Params) : Obj := ⟨.type "tuple",.none,.seq #[.str "i" 758,.int 8 759] 0,#[]⟩
noncomputable abbrev oe331 (P : Params) : Obj := ⟨.type "tuple",.none,.seq #[.str "o" 760,.int 4 761] 0,#[]⟩
noncomputable abbrev oe332 (P : Params) : Obj := ⟨.type "tuple",.none,.seq #[.str "r" 762,.int 2 763] 0,#[]⟩
noncomputable abbrev oe333 (P : Params) : Obj := ⟨.type "tuple",.none,.seq #[.str "w" 764,.int 1 765] 0,#[]⟩
noncomputable abbrev oe334 (P : Params) : Obj := ⟨.type "list",.none,.seq #[.ref 330,.ref 331,.ref 332,.ref 333] 0,#[]⟩
noncomputable abbrev oe335 (P : Params) : Obj := ⟨.type "tuple",.none,.seq #[] 0,#[]⟩
noncomputable abbrev oe336 (P : Params) : Obj := ⟨.none,.none,.fields #[],#[]⟩
noncomputable abbrev oe337 (P : Params) : Obj := C22
noncomputable abbrev oe338 (P : Params) : Obj := ⟨.type "code",.none,.fields #[.str "hexed" 767,.str "hexed" 768,.str "/claim/cut.py" 769,.int 61 0,.int 2 0,.int 0 0,.int 0 0,.int 3 0,.ref 335,.bool true,.int 181 0,.ref 336,.none,.none,.none,.ref 337,.int 770 0,.int 61 0,.str "/claim/cut.py" 771],#[]⟩
noncomputable abbrev oe339 (P : Params) : Obj := F22 (.str "corecc.disasm" 754) (.ref 338)
noncomputable abbrev oe340 (P : Params) : Obj := ⟨.type "tuple",.none,.seq #[] 0,#[]⟩
noncomputable abbrev oe341 (P : Params) : Obj := ⟨.none,.none,.fields #[],#[]⟩
noncomputable abbrev oe342 (P : Params) : Obj := C23
noncomputable abbrev oe343 (P : Params) : Obj := ⟨.type "code",.none,.fields #[.str "fence_set" 773,.str "fence_set" 774,.str "/claim/cut.py" 775,.int 63 0,.int 1 0,.int 0 0,.int 0 0,.int 3 0,.ref 340,.bool true,.int 181 0,.ref 341,.none,.none,.none,.ref 342,.int 776 0,.int 63 0,.str "/claim/cut.py" 777],#[]⟩
noncomputable abbrev oe344 (P : Params) : Obj := F23 (.str "corecc.disasm" 754) (.ref 343)
noncomputable abbrev oe345 (P : Params) : Obj := ⟨.type "tuple",.none,.seq #[] 0,#[]⟩
noncomputable abbrev oe346 (P : Params) : Obj := ⟨.none,.none,.fields #[],#[]⟩
noncomputable abbrev oe347 (P : Params) : Obj := ⟨.type "tuple",.none,.seq #[.str "fields" 782,.str "key" 783] 0,#[]⟩
noncomputable abbrev oe348 (P : Params) : Obj := ⟨.type "tuple",.none,.seq #[] 0,#[]⟩
noncomputable abbrev oe349 (P : Params) : Obj := C24
noncomputable abbrev oe350 (P : Params) : Obj := ⟨.type "code",.none,.fields #[.str "register" 779,.str "register" 780,.str "/claim/cut.py" 781,.int 66 0,.int 2 0,.int 0 0,.int 0 0,.int 3 0,.ref 345,.bool true,.int 181 0,.ref 346,.none,.ref 347,.ref 348,.ref 349,.int 784 0,.int 66 0,.str "/claim/cut.py" 785],#[]⟩
noncomputable abbrev oe351 (P : Params) : Obj := F24 (.str "corecc.disasm" 754) (.ref 350)
noncomputable abbrev oe352 (P : Params) : Obj := ⟨.type "tuple",.none,.seq #[] 0,#[]⟩
noncomputable abbrev oe353 (P : Params) : Obj := ⟨.none,.none,.fields #[],#[]⟩
noncomputable abbrev oe354 (P : Params) : Obj := ⟨.type "tuple",.none,.seq #[.str "name" 790] 0,#[]⟩
noncomputable abbrev oe355 (P : Params) : Obj := ⟨.type "tuple",.none,.seq #[] 0,#[]⟩
noncomputable abbrev oe356 (P : Params) : Obj := C25
noncomputable abbrev oe357 (P : Params) : Obj := ⟨.type "code",.none,.fields #[.str "is_with_place" 787,.str "is_with_place" 788,.str "/claim/cut.py" 789,.int 68 0,.int 1 0,.int 0 0,.int 0 0,.int 3 0,.ref 352,.bool true,.int 181 0,.ref 353,.none,.ref 354,.ref 355,.ref 356,.int 791 0,.int 68 0,.str "/claim/cut.py" 792],#[]⟩
noncomputable abbrev oe358 (P : Params) : Obj := F25 (.str "corecc.disasm" 754) (.ref 357)
noncomputable abbrev oe359 (P : Params) : Obj := ⟨.type "tuple",.none,.seq #[] 0,#[]⟩
noncomputable abbrev oe360 (P : Params) : Obj := ⟨.none,.none,.fields #[],#[]⟩
noncomputable abbrev oe361 (P : Params) : Obj := ⟨.type "tuple",.none,.seq #[.str "name" 797,.str "fields" 798,.str "form" 799,.str "first" 800] 0,#[]⟩
noncomputable abbrev oe362 (P : Params) : Obj := ⟨.type "tuple",.none,.seq #[] 0,#[]⟩
noncomputable abbrev oe363 (P : Params) : Obj := C26
noncomputable abbrev oe364 (P : Params) : Obj := ⟨.type "code",.none,.fields #[.str "operands" 794,.str "operands" 795,.str "/claim/cut.py" 796,.int 70 0,.int 2 0,.int 0 0,.int 0 0,.int 3 0,.ref 359,.bool true,.int 181 0,.ref 360,.none,.ref 361,.ref 362,.ref 363,.int 801 0,.int 70 0,.str "/claim/cut.py" 802],#[]⟩
noncomputable abbrev oe365 (P : Params) : Obj := F26 (.str "corecc.disasm" 754) (.ref 364)
noncomputable abbrev oe366 (P : Params) : Obj := ⟨.type "tuple",.none,.seq #[] 0,#[]⟩
noncomputable abbrev oe367 (P : Params) : Obj := ⟨.none,.none,.fields #[],#[]⟩
noncomputable abbrev oe368 (P : Params) : Obj := ⟨.type "tuple",.none,.seq #[.str "word" 807,.str "found" 808,.str "name" 809,.str "fields" 810,.str "told" 811] 0,#[]⟩
noncomputable abbrev oe369 (P : Params) : Obj := ⟨.type "tuple",.none,.seq #[] 0,#[]⟩
noncomputable abbrev oe370 (P : Params) : Obj := C27
noncomputable abbrev oe371 (P : Params) : Obj := ⟨.type "code",.none,.fields #[.str "disassemble" 804,.str "disassemble" 805,.str "/claim/cut.py" 806,.int 86 0,.int 1 0,.int 0 0,.int 0 0,.int 3 0,.ref 366,.bool true,.int 181 0,.ref 367,.none,.ref 368,.ref 369,.ref 370,.int 812 0,.int 86 0,.str "/claim/cut.py" 813],#[]⟩
noncomputable abbrev oe372 (P : Params) : Obj := F27 (.str "corecc.disasm" 754) (.ref 371)
noncomputable abbrev oe373 (P : Params) : Obj := ⟨.type "tuple",.none,.seq #[] 0,#[]⟩
noncomputable abbrev oe374 (P : Params) : Obj := ⟨.none,.none,.fields #[],#[]⟩
noncomputable abbrev oe375 (P : Params) : Obj := ⟨.type "tuple",.none,.seq #[.str "word" 818,.str "at" 819,.str "found" 820] 0,#[]⟩
noncomputable abbrev oe376 (P : Params) : Obj := ⟨.type "tuple",.none,.seq #[] 0,#[]⟩
noncomputable abbrev oe377 (P : Params) : Obj := C28
noncomputable abbrev oe378 (P : Params) : Obj := ⟨.type "code",.none,.fields #[.str "target_of" 815,.str "target_of" 816,.str "/claim/cut.py" 817,.int 93 0,.int 2 0,.int 0 0,.int 0 0,.int 3 0,.ref 373,.bool true,.int 181 0,.ref 374,.none,.ref 375,.ref 376,.ref 377,.int 821 0,.int 93 0,.str "/claim/cut.py" 822],#[]⟩
noncomputable abbrev oe379 (P : Params) : Obj := F28 (.str "corecc.disasm" 754) (.ref 378)
noncomputable abbrev oe380 (P : Params) : Obj := ⟨.type "tuple",.none,.seq #[] 0,#[]⟩
noncomputable abbrev oe381 (P : Params) : Obj := ⟨.none,.none,.fields #[],#[]⟩
noncomputable abbrev oe382 (P : Params) : Obj := C29
noncomputable abbrev oe383 (P : Params) : Obj := ⟨.type "code",.none,.fields #[.str "words_of" 824,.str "words_of" 825,.str "/claim/cut.py" 826,.int 98 0,.int 1 0,.int 0 0,.int 0 0,.int 3 0,.ref 380,.bool true,.int 181 0,.ref 381,.none,.none,.none,.ref 382,.int 827 0,.int 98 0,.str "/claim/cut.py" 828],#[]⟩
noncomputable abbrev oe384 (P : Params) : Obj := F29 (.str "corecc.disasm" 754) (.ref 383)
noncomputable abbrev oe385 (P : Params) : Obj := ⟨.type "tuple",.none,.seq #[] 0,#[]⟩
noncomputable abbrev oe386 (P : Params) : Obj := ⟨.none,.none,.fields #[],#[]⟩
noncomputable abbrev oe387 (P : Params) : Obj := C30
noncomputable abbrev oe388 (P : Params) : Obj := ⟨.type "code",.none,.fields #[.str "left_octets" 830,.str "left_octets" 831,.str "/claim/cut.py" 832,.int 100 0,.int 1 0,.int 0 0,.int 0 0,.int 3 0,.ref 385,.bool true,.int 181 0,.ref 386,.none,.none,.none,.ref 387,.int 833 0,.int 100 0,.str "/claim/cut.py" 834],#[]⟩
noncomputable abbrev oe389 (P : Params) : Obj := F30 (.str "corecc.disasm" 754) (.ref 388)
noncomputable abbrev oe390 (P : Params) : Obj := ⟨.type "tuple",.none,.seq #[] 0,#[]⟩
noncomputable abbrev oe391 (P : Params) : Obj := ⟨.none,.none,.fields #[],#[]⟩
noncomputable abbrev oe392 (P : Params) : Obj := ⟨.type "tuple",.none,.seq #[.str "octets" 839,.str "rows" 840,.str "word" 841,.str "last" 842] 0,#[]⟩
noncomputable abbrev oe393 (P : Params) : Obj := ⟨.type "tuple",.none,.seq #[] 0,#[]⟩
noncomputable abbrev oe394 (P : Params) : Obj := C31
noncomputable abbrev oe395 (P : Params) : Obj := ⟨.type "code",.none,.fields #[.str "source_of" 836,.str "source_of" 837,.str "/claim/cut.py" 838,.int 103 0,.int 1 0,.int 0 0,.int 0 0,.int 3 0,.ref 390,.bool true,.int 181 0,.ref 391,.none,.ref 392,.ref 393,.ref 394,.int 843 0,.int 103 0,.str "/claim/cut.py" 844],#[]⟩
noncomputable abbrev oe396 (P : Params) : Obj := F31 (.str "corecc.disasm" 754) (.ref 395)
noncomputable abbrev oe397 (P : Params) : Obj := ⟨.type "tuple",.none,.seq #[] 0,#[]⟩
noncomputable abbrev oe398 (P : Params) : Obj := ⟨.none,.none,.fields #[],#[]⟩
noncomputable abbrev oe399 (P : Params) : Obj := ⟨.type "tuple",.none,.seq #[.str "octets" 849,.str "base" 850,.str "rows" 851,.str "at" 852,.str "word" 853,.str "row" 854,.str "target" 855,.str "last" 856] 0,#[]⟩
noncomputable abbrev oe400 (P : Params) : Obj := ⟨.type "tuple",.none,.seq #[] 0,#[]⟩
noncomputable abbrev oe401 (P : Params) : Obj := C32
noncomputable abbrev oe402 (P : Params) : Obj := ⟨.type "code",.none,.fields #[.str "listing" 846,.str "listing" 847,.str "/claim/cut.py" 848,.int 111 0,.int 2 0,.int 0 0,.int 0 0,.int 3 0,.ref 397,.bool true,.int 181 0,.ref 398,.none,.ref 399,.ref 400,.ref 401,.int 857 0,.int 111 0,.str "/claim/cut.py" 858],#[]⟩
noncomputable abbrev oe403 (P : Params) : Obj := F32 (.str "corecc.disasm" 754) (.ref 402)
noncomputable abbrev oe404 (P : Params) : Obj := ⟨.type "tuple",.none,.seq #[] 0,#[]⟩
noncomputable abbrev oe405 (P : Params) : Obj := ⟨.none,.none,.fields #[],#[]⟩
noncomputable abbrev oe406 (P : Params) : Obj := ⟨.type "tuple",.none,.seq #[.str "octets" 863,.str "base" 864,.str "symbols" 865,.str "named" 866,.str "name" 867,.str "rows" 868,.str "place" 869,.str "row" 870] 0,#[]⟩
noncomputable abbrev oe407 (P : Params) : Obj := ⟨.type "tuple",.none,.seq #[] 0,#[]⟩
noncomputable abbrev oe408 (P : Params) : Obj := C33
noncomputable abbrev oe409 (P : Params) : Obj := ⟨.type "code",.none,.fields #[.str "symbol_listing" 860,.str "symbol_listing" 861,.str "/claim/cut.py" 862,.int 123 0,.int 3 0,.int 0 0,.int 0 0,.int 3 0,.ref 404,.bool true,.int 181 0,.ref 405,.none,.ref 406,.ref 407,.ref 408,.int 871 0,.int 123 0,.str "/claim/cut.py" 872],#[]⟩
noncomputable abbrev oe410 (P : Params) : Obj := F33 (.str "corecc.disasm" 754) (.ref 409)
noncomputable abbrev oe411 (P : Params) : Obj := ⟨.type "tuple",.none,(.seq #[.int 55 876,.int 23 877,.int 111 878,.int 103 879,.int 99 880,.int 3 881,.int 35 882,.int 19 883,.int 51 884,.int 15 885,.int 115 886,(.int (-1) 888)] 0),#[]⟩
noncomputable abbrev oe412 (P : Params) : Obj := ⟨.type "tuple",.none,.seq #[.str "beq" 892,.str "bne" 893,.str "" 894,.str "" 895,.str "blt" 896,.str "bge" 897,.str "bltu" 898,.str "bgeu" 899] 0,#[]⟩
noncomputable abbrev oe413 (P : Params) : Obj := ⟨.type "tuple",.none,.seq #[.str "lb" 901,.str "lh" 902,.str "lw" 903,.str "" 904,.str "lbu" 905,.str "lhu" 906] 0,#[]⟩
noncomputable abbrev oe414 (P : Params) : Obj := ⟨.type "tuple",.none,.seq #[.str "addi" 908,.str "slli" 909,.str "slti" 910,.str "sltiu" 911,.str "xori" 912,.str "srli" 913,.str "ori" 914,.str "andi" 915] 0,#[]⟩
noncomputable abbrev oe415 (P : Params) : Obj := ⟨.type "tuple",.none,.seq #[.str "add" 917,.str "sll" 918,.str "slt" 919,.str "sltu" 920,.str "xor" 921,.str "srl" 922,.str "or" 923,.str "and" 924] 0,#[]⟩
noncomputable abbrev oe416 (P : Params) : Obj := ⟨.type "tuple",.none,.seq #[.str "mul" 926,.str "mulh" 927,.str "mulhsu" 928,.str "mulhu" 929,.str "div" 930,.str "divu" 931,.str "rem" 932,.str "remu" 933] 0,#[]⟩
noncomputable abbrev oe417 (P : Params) : Obj := ⟨.type "tuple",.none,.seq #[] 0,#[]⟩
noncomputable abbrev oe418 (P : Params) : Obj := ⟨.none,.none,.fields #[],#[]⟩
noncomputable abbrev oe419 (P : Params) : Obj := ⟨.type "tuple",.none,.seq #[.str "well" 938,.str "size" 939,.str "numbers" 940,.str "at" 941,.str "stirred" 942,.str "pick" 943] 0,#[]⟩
noncomputable abbrev oe420 (P : Params) : Obj := ⟨.type "tuple",.none,.seq #[] 0,#[]⟩
noncomputable abbrev oe421 (P : Params) : Obj := C42
noncomputable abbrev oe422 (P : Params) : Obj := ⟨.type "code",.none,.fields #[.str "_law_draw" 935,.str "_law_draw" 936,.str "/claim/cut.py" 937,.int 141 0,.int 2 0,.int 0 0,.int 0 0,.int 3 0,.ref 417,.bool true,.int 181 0,.ref 418,.none,.ref 419,.ref 420,.ref 421,.int 944 0,.int 141 0,.str "/claim/cut.py" 945],#[]⟩
noncomputable abbrev oe423 (P : Params) : Obj := F42 (.str "law_nm0011_01" 874) (.ref 422)
noncomputable abbrev oe424 (P : Params) : Obj := ⟨.type "tuple",.none,.seq #[] 0,#[]⟩
noncomputable abbrev oe425 (P : Params) : Obj := ⟨.none,.none,.fields #[],#[]⟩
noncomputable abbrev oe426 (P : Params) : Obj := ⟨.type "tuple",.none,.seq #[.str "well" 950,.str "group" 951,.str "high" 952,.str "low" 953,.str "sum_now" 954,.str "way" 955,.str "drawn" 956] 0,#[]⟩
noncomputable abbrev oe427 (P : Params) : Obj := ⟨.type "tuple",.none,.seq #[] 0,#[]⟩
noncomputable abbrev oe428 (P : Params) : Obj := C43
noncomputable abbrev oe429 (P : Params) : Obj := ⟨.type "code",.none,.fields #[.str "_law_word" 947,.str "_law_word" 948,.str "/claim/cut.py" 949,.int 147 0,.int 1 0,.int 0 0,.int 0 0,.int 3 0,.ref 424,.bool true,.int 181 0,.ref 425,.none,.ref 426,.ref 427,.ref 428,.int 957 0,.int 147 0,.str "/claim/cut.py" 958],#[]⟩
noncomputable abbrev oe430 (P : Params) : Obj := F43 (.str "law_nm0011_01" 874) (.ref 429)
noncomputable abbrev oe431 (P : Params) : Obj := ⟨.type "tuple",.none,.seq #[] 0,#[]⟩
noncomputable abbrev oe432 (P : Params) : Obj := ⟨.none,.none,.fields #[],#[]⟩
noncomputable abbrev oe433 (P : Params) : Obj := ⟨.type "tuple",.none,.seq #[.str "sum_now" 963,.str "group" 964,.str "low" 965,.str "high" 966,.str "lows" 967] 0,#[]⟩
noncomputable abbrev oe434 (P : Params) : Obj := ⟨.type "tuple",.none,.seq #[] 0,#[]⟩
noncomputable abbrev oe435 (P : Params) : Obj := C44
noncomputable abbrev oe436 (P : Params) : Obj := ⟨.type "code",.none,.fields #[.str "_law_is_one" 960,.str "_law_is_one" 961,.str "/claim/cut.py" 962,.int 162 0,.int 1 0,.int 0 0,.int 0 0,.int 3 0,.ref 431,.bool true,.int 181 0,.ref 432,.none,.ref 433,.ref 434,.ref 435,.int 968 0,.int 162 0,.str "/claim/cut.py" 969],#[]⟩
noncomputable abbrev oe437 (P : Params) : Obj := F44 (.str "law_nm0011_01" 874) (.ref 436)
noncomputable abbrev oe438 (P : Params) : Obj := ⟨.type "tuple",.none,.seq #[] 0,#[]⟩
noncomputable abbrev oe439 (P : Params) : Obj := ⟨.none,.none,.fields #[],#[]⟩
noncomputable abbrev oe440 (P : Params) : Obj := C45
noncomputable abbrev oe441 (P : Params) : Obj := ⟨.type "code",.none,.fields #[.str "_law_number" 971,.str "_law_number" 972,.str "/claim/cut.py" 973,.int 176 0,.int 1 0,.int 0 0,.int 0 0,.int 3 0,.ref 438,.bool true,.int 181 0,.ref 439,.none,.none,.none,.ref 440,.int 974 0,.int 176 0,.str "/claim/cut.py" 975],#[]⟩
noncomputable abbrev oe442 (P : Params) : Obj := F45 (.str "law_nm0011_01" 874) (.ref 441)
noncomputable abbrev oe443 (P : Params) : Obj := ⟨.type "tuple",.none,.seq #[] 0,#[]⟩
noncomputable abbrev oe444 (P : Params) : Obj := ⟨.none,.none,.fields #[],#[]⟩
noncomputable abbrev oe445 (P : Params) : Obj := ⟨.type "tuple",.none,.seq #[.str "text" 980,.str "names" 981] 0,#[]⟩
noncomputable abbrev oe446 (P : Params) : Obj := ⟨.type "tuple",.none,.seq #[] 0,#[]⟩
noncomputable abbrev oe447 (P : Params) : Obj := C46
noncomputable abbrev oe448 (P : Params) : Obj := ⟨.type "code",.none,.fields #[.str "_law_cell" 977,.str "_law_cell" 978,.str "/claim/cut.py" 979,.int 181 0,.int 1 0,.int 0 0,.int 0 0,.int 3 0,.ref 443,.bool true,.int 181 0,.ref 444,.none,.ref 445,.ref 446,.ref 447,.int 982 0,.int 181 0,.str "/claim/cut.py" 983],#[]⟩
noncomputable abbrev oe449 (P : Params) : Obj := F46 (.str "law_nm0011_01" 874) (.ref 448)
noncomputable abbrev oe450 (P : Params) : Obj := ⟨.type "tuple",.none,.seq #[] 0,#[]⟩
noncomputable abbrev oe451 (P : Params) : Obj := ⟨.none,.none,.fields #[],#[]⟩
noncomputable abbrev oe452 (P : Params) : Obj := C47
noncomputable abbrev oe453 (P : Params) : Obj := ⟨.type "code",.none,.fields #[.str "_law_hexed" 985,.str "_law_hexed" 986,.str "/claim/cut.py" 987,.int 184 0,.int 1 0,.int 0 0,.int 0 0,.int 3 0,.ref 450,.bool true,.int 181 0,.ref 451,.none,.none,.none,.ref 452,.int 988 0,.int 184 0,.str "/claim/cut.py" 989],#[]⟩
noncomputable abbrev oe454 (P : Params) : Obj := F47 (.str "law_nm0011_01" 874) (.ref 453)
noncomputable abbrev oe455 (P : Params) : Obj := ⟨.type "tuple",.none,.seq #[] 0,#[]⟩
noncomputable abbrev oe456 (P : Params) : Obj := ⟨.none,.none,.fields #[],#[]⟩
noncomputable abbrev oe457 (P : Params) : Obj := C48
noncomputable abbrev oe458 (P : Params) : Obj := ⟨.type "code",.none,.fields #[.str "_law_unhexed" 991,.str "_law_unhexed" 992,.str "/claim/cut.py" 993,.int 186 0,.int 1 0,.int 0 0,.int 0 0,.int 3 0,.ref 455,.bool true,.int 181 0,.ref 456,.none,.none,.none,.ref 457,.int 994 0,.int 186 0,.str "/claim/cut.py" 995],#[]⟩
noncomputable abbrev oe459 (P : Params) : Obj := F48 (.str "law_nm0011_01" 874) (.ref 458)
noncomputable abbrev oe460 (P : Params) : Obj := ⟨.type "tuple",.none,.seq #[] 0,#[]⟩
noncomputable abbrev oe461 (P : Params) : Obj := ⟨.none,.none,.fields #[],#[]⟩
noncomputable abbrev oe462 (P : Params) : Obj := C49
noncomputable abbrev oe463 (P : Params) : Obj := ⟨.type "code",.none,.fields #[.str "_law_jump" 997,.str "_law_jump" 998,.str "/claim/cut.py" 999,.int 191 0,.int 2 0,.int 0 0,.int 0 0,.int 3 0,.ref 460,.bool true,.int 181 0,.ref 461,.none,.none,.none,.ref 462,.int 1000 0,.int 191 0,.str "/claim/cut.py" 1001],#[]⟩
noncomputable abbrev oe464 (P : Params) : Obj := F49 (.str "law_nm0011_01" 874) (.ref 463)
noncomputable abbrev oe465 (P : Params) : Obj := ⟨.type "tuple",.none,.seq #[] 0,#[]⟩
noncomputable abbrev oe466 (P : Params) : Obj := ⟨.none,.none,.fields #[],#[]⟩
noncomputable abbrev oe467 (P : Params) : Obj := ⟨.type "tuple",.none,.seq #[.str "name" 1006,.str "parts" 1007,.str "place" 1008,.str "mark" 1009,.str "rest" 1010,.str "far" 1011,.str "first" 1012,.str "second" 1013,.str "sum_now" 1014] 0,#[]⟩
noncomputable abbrev oe468 (P : Params) : Obj := ⟨.type "tuple",.none,.seq #[] 0,#[]⟩
noncomputable abbrev oe469 (P : Params) : Obj := C50
noncomputable abbrev oe470 (P : Params) : Obj := ⟨.type "code",.none,.fields #[.str "_law_moved" 1003,.str "_law_moved" 1004,.str "/claim/cut.py" 1005,.int 207 0,.int 2 0,.int 0 0,.int 0 0,.int 3 0,.ref 465,.bool true,.int 181 0,.ref 466,.none,.ref 467,.ref 468,.ref 469,.int 1015 0,.int 207 0,.str "/claim/cut.py" 1016],#[]⟩
noncomputable abbrev oe471 (P : Params) : Obj := F50 (.str "law_nm0011_01" 874) (.ref 470)
noncomputable abbrev oe472 (P : Params) : Obj := ⟨.type "tuple",.none,.seq #[] 0,#[]⟩
noncomputable abbrev oe473 (P : Params) : Obj := ⟨.none,.none,.fields #[],#[]⟩
noncomputable abbrev oe474 (P : Params) : Obj := ⟨.type "tuple",.none,.seq #[.str "name" 1021,.str "parts" 1022,.str "sum_now" 1023,.str "last" 1024,.str "low" 1025,.str "high" 1026] 0,#[]⟩
noncomputable abbrev oe475 (P : Params) : Obj := ⟨.type "tuple",.none,.seq #[] 0,#[]⟩
noncomputable abbrev oe476 (P : Params) : Obj := C51
noncomputable abbrev oe477 (P : Params) : Obj := ⟨.type "code",.none,.fields #[.str "_law_worked" 1018,.str "_law_worked" 1019,.str "/claim/cut.py" 1020,.int 217 0,.int 2 0,.int 0 0,.int 0 0,.int 3 0,.ref 472,.bool true,.int 181 0,.ref 473,.none,.ref 474,.ref 475,.ref 476,.int 1027 0,.int 217 0,.str "/claim/cut.py" 1028],#[]⟩
noncomputable abbrev oe478 (P : Params) : Obj := F51 (.str "law_nm0011_01" 874) (.ref 477)
noncomputable abbrev oe479 (P : Params) : Obj := ⟨.type "tuple",.none,.seq #[] 0,#[]⟩
noncomputable abbrev oe480 (P : Params) : Obj := ⟨.none,.none,.fields #[],#[]⟩
noncomputable abbrev oe481 (P : Params) : Obj := ⟨.type "tuple",.none,.seq #[.str "text" 1033,.str "name" 1034,.str "gap" 1035,.str "tail" 1036,.str "parts" 1037] 0,#[]⟩
noncomputable abbrev oe482 (P : Params) : Obj := ⟨.type "tuple",.none,.seq #[] 0,#[]⟩
noncomputable abbrev oe483 (P : Params) : Obj := C52
noncomputable abbrev oe484 (P : Params) : Obj := ⟨.type "code",.none,.fields #[.str "_law_read" 1030,.str "_law_read" 1031,.str "/claim/cut.py" 1032,.int 230 0,.int 1 0,.int 0 0,.int 0 0,.int 3 0,.ref 479,.bool true,.int 181 0,.ref 480,.none,.ref 481,.ref 482,.ref 483,.int 1038 0,.int 230 0,.str "/claim/cut.py" 1039],#[]⟩
noncomputable abbrev oe485 (P : Params) : Obj := F52 (.str "law_nm0011_01" 874) (.ref 484)
noncomputable abbrev oe486 (P : Params) : Obj := ⟨.type "tuple",.none,.seq #[] 0,#[]⟩
noncomputable abbrev oe487 (P : Params) : Obj := ⟨.none,.none,.fields #[],#[]⟩
noncomputable abbrev oe488 (P : Params) : Obj := ⟨.type "tuple",.none,.seq #[.str "sum_now" 1044,.str "said" 1045,.str "at" 1046] 0,#[]⟩
noncomputable abbrev oe489 (P : Params) : Obj := ⟨.type "tuple",.none,.seq #[] 0,#[]⟩
noncomputable abbrev oe490 (P : Params) : Obj := C53
noncomputable abbrev oe491 (P : Params) : Obj := ⟨.type "code",.none,.fields #[.str "_law_target" 1041,.str "_law_target" 1042,.str "/claim/cut.py" 1043,.int 242 0,.int 3 0,.int 0 0,.int 0 0,.int 3 0,.ref 486,.bool true,.int 181 0,.ref 487,.none,.ref 488,.ref 489,.ref 490,.int 1047 0,.int 242 0,.str "/claim/cut.py" 1048],#[]⟩
noncomputable abbrev oe492 (P : Params) : Obj := F53 (.str "law_nm0011_01" 874) (.ref 491)
noncomputable abbrev oe493 (P : Params) : Obj := ⟨.type "tuple",.none,.seq #[] 0,#[]⟩
noncomputable abbrev oe494 (P : Params) : Obj := ⟨.none,.none,.fields #[],#[]⟩
noncomputable abbrev oe495 (P : Params) : Obj := C54
noncomputable abbrev oe496 (P : Params) : Obj := ⟨.type "code",.none,.fields #[.str "_law_rows" 1050,.str "_law_rows" 1051,.str "/claim/cut.py" 1052,.int 246 0,.int 3 0,.int 0 0,.int 0 0,.int 3 0,.ref 493,.bool true,.int 181 0,.ref 494,.none,.none,.none,.ref 495,.int 1053 0,.int 246 0,.str "/claim/cut.py" 1054],#[]⟩
noncomputable abbrev oe497 (P : Params) : Obj := F54 (.str "law_nm0011_01" 874) (.ref 496)
noncomputable abbrev oe498 (P : Params) : Obj := ⟨.type "tuple",.none,.seq #[] 0,#[]⟩
noncomputable abbrev oe499 (P : Params) : Obj := ⟨.none,.none,.fields #[],#[]⟩
noncomputable abbrev oe500 (P : Params) : Obj := C55
noncomputable abbrev oe501 (P : Params) : Obj := ⟨.type "code",.none,.fields #[.str "_law_lists_right" 1056,.str "_law_lists_right" 1057,.str "/claim/cut.py" 1058,.int 257 0,.int 3 0,.int 0 0,.int 0 0,.int 3 0,.ref 498,.bool true,.int 181 0,.ref 499,.none,.none,.none,.ref 500,.int 1059 0,.int 257 0,.str "/claim/cut.py" 1060],#[]⟩
noncomputable abbrev oe502 (P : Params) : Obj := F55 (.str "law_nm0011_01" 874) (.ref 501)
noncomputable abbrev oe503 (P : Params) : Obj := ⟨.type "tuple",.none,.seq #[] 0,#[]⟩
noncomputable abbrev oe504 (P : Params) : Obj := ⟨.none,.none,.fields #[],#[]⟩
noncomputable abbrev oe505 (P : Params) : Obj := C56
noncomputable abbrev oe506 (P : Params) : Obj := ⟨.type "code",.none,.fields #[.str "law" 1062,.str "law" 1063,.str "/claim/cut.py" 1064,.int 272 0,.int 1 0,.int 0 0,.int 0 0,.int 3 0,.ref 503,.bool true,.int 181 0,.ref 504,.none,.none,.none,.ref 505,.int 1065 0,.int 272 0,.str "/claim/cut.py" 1066],#[]⟩
noncomputable abbrev oe507 (P : Params) : Obj := F56 (.str "law_nm0011_01" 874) (.ref 506)
noncomputable abbrev tE_15 (P : Params) : BT := (.node (oc15 P) (.node (oc31 P) (.node (oc63 P) (.node (od127 P) (.node (od255 P) .nil .nil) (.node (oe383 P) .nil .nil)) (.node (od191 P) (.node (oe319 P) .nil .nil) (.node (oe447 P) .nil .nil))) (.node (oc95 P) (.node (od159 P) (.node (od287 P) .nil .nil) (.node (oe415 P) .nil .nil)) (.node (od223 P) (.node (oe351 P) .nil .nil) (.node (oe479 P) .nil .nil)))) (.node (oc47 P) (.node (oc79 P) (.node (od143 P) (.node (od271 P) .nil .nil) (.node (oe399 P) .nil .nil)) (.node (od207 P) (.node (oe335 P) .nil .nil) (.node (oe463 P) .nil .nil))) (.node (oc111 P) (.node (od175 P) (.node (od303 P) .nil .nil) (.node (oe431 P) .nil .nil)) (.node (od239 P) (.node (oe367 P) .nil .nil) (.node (oe495 P) .nil .nil)))))
noncomputable abbrev tE_23 (P : Params) : BT := (.node (oc23 P) (.node (oc39 P) (.node (oc71 P) (.node (od135 P) (.node (od263 P) .nil .nil) (.node (oe391 P) .nil .nil)) (.node (od199 P) (.node (oe327 P) .nil .nil) (.node (oe455 P) .nil .nil))) (.node (oc103 P) (.node (od167 P) (.node (od295 P) .nil .nil) (.node (oe423 P) .nil .nil)) (.node (od231 P) (.node (oe359 P) .nil .nil) (.node (oe487 P) .nil .nil)))) (.node (oc55 P) (.node (oc87 P) (.node (od151 P) (.node (od279 P) .nil .nil) (.node (oe407 P) .nil .nil)) (.node (od215 P) (.node (oe343 P) .nil .nil) (.node (oe471 P) .nil .nil))) (.node (od119 P) (.node (od183 P) (.node (od311 P) .nil .nil) (.node (oe439 P) .nil .nil)) (.node (od247 P) (.node (oe375 P) .nil .nil) (.node (oe503 P) .nil .nil)))))
noncomputable abbrev tE_19 (P : Params) : BT := (.node (oc19 P) (.node (oc35 P) (.node (oc67 P) (.node (od131 P) (.node (od259 P) .nil .nil) (.node (oe387 P) .nil .nil)) (.node (od195 P) (.node (oe323 P) .nil .nil) (.node (oe451 P) .nil .nil))) (.node (oc99 P) (.node (od163 P) (.node (od291 P) .nil .nil) (.node (oe419 P) .nil .nil)) (.node (od227 P) (.node (oe355 P) .nil .nil) (.node (oe483 P) .nil .nil)))) (.node (oc51 P) (.node (oc83 P) (.node (od147 P) (.node (od275 P) .nil .nil) (.node (oe403 P) .nil .nil)) (.node (od211 P) (.node (oe339 P) .nil .nil) (.node (oe467 P) .nil .nil))) (.node (oc115 P) (.node (od179 P) (.node (od307 P) .nil .nil) (.node (oe435 P) .nil .nil)) (.node (od243 P) (.node (oe371 P) .nil .nil) (.node (oe499 P) .nil .nil)))))
noncomputable abbrev tE_27 (P : Params) : BT := (.node (oc27 P) (.node (oc43 P) (.node (oc75 P) (.node (od139 P) (.node (od267 P) .nil .nil) (.node (oe395 P) .nil .nil)) (.node (od203 P) (.node (oe331 P) .nil .nil) (.node (oe459 P) .nil .nil))) (.node (oc107 P) (.node (od171 P) (.node (od299 P) .nil .nil) (.node (oe427 P) .nil .nil)) (.node (od235 P) (.node (oe363 P) .nil .nil) (.node (oe491 P) .nil .nil)))) (.node (oc59 P) (.node (oc91 P) (.node (od155 P) (.node (od283 P) .nil .nil) (.node (oe411 P) .nil .nil)) (.node (od219 P) (.node (oe347 P) .nil .nil) (.node (oe475 P) .nil .nil))) (.node (od123 P) (.node (od187 P) (.node (od315 P) .nil .nil) (.node (oe443 P) .nil .nil)) (.node (od251 P) (.node (oe379 P) .nil .nil) (.node (oe507 P) .nil .nil)))))
noncomputable abbrev tE_17 (P : Params) : BT := (.node (oc17 P) (.node (oc33 P) (.node (oc65 P) (.node (od129 P) (.node (od257 P) .nil .nil) (.node (oe385 P) .nil .nil)) (.node (od193 P) (.node (oe321 P) .nil .nil) (.node (oe449 P) .nil .nil))) (.node (oc97 P) (.node (od161 P) (.node (od289 P) .nil .nil) (.node (oe417 P) .nil .nil)) (.node (od225 P) (.node (oe353 P) .nil .nil) (.node (oe481 P) .nil .nil)))) (.node (oc49 P) (.node (oc81 P) (.node (od145 P) (.node (od273 P) .nil .nil) (.node (oe401 P) .nil .nil)) (.node (od209 P) (.node (oe337 P) .nil .nil) (.node (oe465 P) .nil .nil))) (.node (oc113 P) (.node (od177 P) (.node (od305 P) .nil .nil) (.node (oe433 P) .nil .nil)) (.node (od241 P) (.node (oe369 P) .nil .nil) (.node (oe497 P) .nil .nil)))))
noncomputable abbrev tE_25 (P : Params) : BT := (.node (oc25 P) (.node (oc41 P) (.node (oc73 P) (.node (od137 P) (.node (od265 P) .nil .nil) (.node (oe393 P) .nil .nil)) (.node (od201 P) (.node (oe329 P) .nil .nil) (.node (oe457 P) .nil .nil))) (.node (oc105 P) (.node (od169 P) (.node (od297 P) .nil .nil) (.node (oe425 P) .nil .nil)) (.node (od233 P) (.node (oe361 P) .nil .nil) (.node (oe489 P) .nil .nil)))) (.node (oc57 P) (.node (oc89 P) (.node (od153 P) (.node (od281 P) .nil .nil) (.node (oe409 P) .nil .nil)) (.node (od217 P) (.node (oe345 P) .nil .nil) (.node (oe473 P) .nil .nil))) (.node (od121 P) (.node (od185 P) (.node (od313 P) .nil .nil) (.node (oe441 P) .nil .nil)) (.node (od249 P) (.node (oe377 P) .nil .nil) (.node (oe505 P) .nil .nil)))))
noncomputable abbrev tE_21 (P : Params) : BT := (.node (oc21 P) (.node (oc37 P) (.node (oc69 P) (.node (od133 P) (.node (od261 P) .nil .nil) (.node (oe389 P) .nil .nil)) (.node (od197 P) (.node (oe325 P) .nil .nil) (.node (oe453 P) .nil .nil))) (.node (oc101 P) (.node (od165 P) (.node (od293 P) .nil .nil) (.node (oe421 P) .nil .nil)) (.node (od229 P) (.node (oe357 P) .nil .nil) (.node (oe485 P) .nil .nil)))) (.node (oc53 P) (.node (oc85 P) (.node (od149 P) (.node (od277 P) .nil .nil) (.node (oe405 P) .nil .nil)) (.node (od213 P) (.node (oe341 P) .nil .nil) (.node (oe469 P) .nil .nil))) (.node (od117 P) (.node (od181 P) (.node (od309 P) .nil .nil) (.node (oe437 P) .nil .nil)) (.node (od245 P) (.node (oe373 P) .nil .nil) (.node (oe501 P) .nil .nil)))))
noncomputable abbrev tE_29 (P : Params) : BT := (.node (oc29 P) (.node (oc45 P) (.node (oc77 P) (.node (od141 P) (.node (od269 P) .nil .nil) (.node (oe397 P) .nil .nil)) (.node (od205 P) (.node (oe333 P) .nil .nil) (.node (oe461 P) .nil .nil))) (.node (oc109 P) (.node (od173 P) (.node (od301 P) .nil .nil) (.node (oe429 P) .nil .nil)) (.node (od237 P) (.node (oe365 P) .nil .nil) (.node (oe493 P) .nil .nil)))) (.node (oc61 P) (.node (oc93 P) (.node (od157 P) (.node (od285 P) .nil .nil) (.node (oe413 P) .nil .nil)) (.node (od221 P) (.node (oe349 P) .nil .nil) (.node (oe477 P) .nil .nil))) (.node (od125 P) (.node (od189 P) (.node (oe317 P) .nil .nil) (.node (oe445 P) .nil .nil)) (.node (od253 P) (.node (oe381 P) .nil .nil) .nil))))
noncomputable abbrev tE_16 (P : Params) : BT := (.node (oc16 P) (.node (oc32 P) (.node (oc64 P) (.node (od128 P) (.node (od256 P) .nil .nil) (.node (oe384 P) .nil .nil)) (.node (od192 P) (.node (oe320 P) .nil .nil) (.node (oe448 P) .nil .nil))) (.node (oc96 P) (.node (od160 P) (.node (od288 P) .nil .nil) (.node (oe416 P) .nil .nil)) (.node (od224 P) (.node (oe352 P) .nil .nil) (.node (oe480 P) .nil .nil)))) (.node (oc48 P) (.node (oc80 P) (.node (od144 P) (.node (od272 P) .nil .nil) (.node (oe400 P) .nil .nil)) (.node (od208 P) (.node (oe336 P) .nil .nil) (.node (oe464 P) .nil .nil))) (.node (oc112 P) (.node (od176 P) (.node (od304 P) .nil .nil) (.node (oe432 P) .nil .nil)) (.node (od240 P) (.node (oe368 P) .nil .nil) (.node (oe496 P) .nil .nil)))))
noncomputable abbrev tE_24 (P : Params) : BT := (.node (oc24 P) (.node (oc40 P) (.node (oc72 P) (.node (od136 P) (.node (od264 P) .nil .nil) (.node (oe392 P) .nil .nil)) (.node (od200 P) (.node (oe328 P) .nil .nil) (.node (oe456 P) .nil .nil))) (.node (oc104 P) (.node (od168 P) (.node (od296 P) .nil .nil) (.node (oe424 P) .nil .nil)) (.node (od232 P) (.node (oe360 P) .nil .nil) (.node (oe488 P) .nil .nil)))) (.node (oc56 P) (.node (oc88 P) (.node (od152 P) (.node (od280 P) .nil .nil) (.node (oe408 P) .nil .nil)) (.node (od216 P) (.node (oe344 P) .nil .nil) (.node (oe472 P) .nil .nil))) (.node (od120 P) (.node (od184 P) (.node (od312 P) .nil .nil) (.node (oe440 P) .nil .nil)) (.node (od248 P) (.node (oe376 P) .nil .nil) (.node (oe504 P) .nil .nil)))))
noncomputable abbrev tE_20 (P : Params) : BT := (.node (oc20 P) (.node (oc36 P) (.node (oc68 P) (.node (od132 P) (.node (od260 P) .nil .nil) (.node (oe388 P) .nil .nil)) (.node (od196 P) (.node (oe324 P) .nil .nil) (.node (oe452 P) .nil .nil))) (.node (oc100 P) (.node (od164 P) (.node (od292 P) .nil .nil) (.node (oe420 P) .nil .nil)) (.node (od228 P) (.node (oe356 P) .nil .nil) (.node (oe484 P) .nil .nil)))) (.node (oc52 P) (.node (oc84 P) (.node (od148 P) (.node (od276 P) .nil .nil) (.node (oe404 P) .nil .nil)) (.node (od212 P) (.node (oe340 P) .nil .nil) (.node (oe468 P) .nil .nil))) (.node (oc116 P) (.node (od180 P) (.node (od308 P) .nil .nil) (.node (oe436 P) .nil .nil)) (.node (od244 P) (.node (oe372 P) .nil .nil) (.node (oe500 P) .nil .nil)))))
noncomputable abbrev tE_28 (P : Params) : BT := (.node (oc28 P) (.node (oc44 P) (.node (oc76 P) (.node (od140 P) (.node (od268 P) .nil .nil) (.node (oe396 P) .nil .nil)) (.node (od204 P) (.node (oe332 P) .nil .nil) (.node (oe460 P) .nil .nil))) (.node (oc108 P) (.node (od172 P) (.node (od300 P) .nil .nil) (.node (oe428 P) .nil .nil)) (.node (od236 P) (.node (oe364 P) .nil .nil) (.node (oe492 P) .nil .nil)))) (.node (oc60 P) (.node (oc92 P) (.node (od156 P) (.node (od284 P) .nil .nil) (.node (oe412 P) .nil .nil)) (.node (od220 P) (.node (oe348 P) .nil .nil) (.node (oe476 P) .nil .nil))) (.node (od124 P) (.node (od188 P) (.node (oe316 P) .nil .nil) (.node (oe444 P) .nil .nil)) (.node (od252 P) (.node (oe380 P) .nil .nil) .nil))))
noncomputable abbrev tE_18 (P : Params) : BT := (.node (oc18 P) (.node (oc34 P) (.node (oc66 P) (.node (od130 P) (.node (od258 P) .nil .nil) (.node (oe386 P) .nil .nil)) (.node (od194 P) (.node (oe322 P) .nil .nil) (.node (oe450 P) .nil .nil))) (.node (oc98 P) (.node (od162 P) (.node (od290 P) .nil .nil) (.node (oe418 P) .nil .nil)) (.node (od226 P) (.node (oe354 P) .nil .nil) (.node (oe482 P) .nil .nil)))) (.node (oc50 P) (.node (oc82 P) (.node (od146 P) (.node (od274 P) .nil .nil) (.node (oe402 P) .nil .nil)) (.node (od210 P) (.node (oe338 P) .nil .nil) (.node (oe466 P) .nil .nil))) (.node (oc114 P) (.node (od178 P) (.node (od306 P) .nil .nil) (.node (oe434 P) .nil .nil)) (.node (od242 P) (.node (oe370 P) .nil .nil) (.node (oe498 P) .nil .nil)))))
noncomputable abbrev tE_26 (P : Params) : BT := (.node (oc26 P) (.node (oc42 P) (.node (oc74 P) (.node (od138 P) (.node (od266 P) .nil .nil) (.node (oe394 P) .nil .nil)) (.node (od202 P) (.node (oe330 P) .nil .nil) (.node (oe458 P) .nil .nil))) (.node (oc106 P) (.node (od170 P) (.node (od298 P) .nil .nil) (.node (oe426 P) .nil .nil)) (.node (od234 P) (.node (oe362 P) .nil .nil) (.node (oe490 P) .nil .nil)))) (.node (oc58 P) (.node (oc90 P) (.node (od154 P) (.node (od282 P) .nil .nil) (.node (oe410 P) .nil .nil)) (.node (od218 P) (.node (oe346 P) .nil .nil) (.node (oe474 P) .nil .nil))) (.node (od122 P) (.node (od186 P) (.node (od314 P) .nil .nil) (.node (oe442 P) .nil .nil)) (.node (od250 P) (.node (oe378 P) .nil .nil) (.node (oe506 P) .nil .nil)))))
noncomputable abbrev tE_22 (P : Params) : BT := (.node (oc22 P) (.node (oc38 P) (.node (oc70 P) (.node (od134 P) (.node (od262 P) .nil .nil) (.node (oe390 P) .nil .nil)) (.node (od198 P) (.node (oe326 P) .nil .nil) (.node (oe454 P) .nil .nil))) (.node (oc102 P) (.node (od166 P) (.node (od294 P) .nil .nil) (.node (oe422 P) .nil .nil)) (.node (od230 P) (.node (oe358 P) .nil .nil) (.node (oe486 P) .nil .nil)))) (.node (oc54 P) (.node (oc86 P) (.node (od150 P) (.node (od278 P) .nil .nil) (.node (oe406 P) .nil .nil)) (.node (od214 P) (.node (oe342 P) .nil .nil) (.node (oe470 P) .nil .nil))) (.node (od118 P) (.node (od182 P) (.node (od310 P) .nil .nil) (.node (oe438 P) .nil .nil)) (.node (od246 P) (.node (oe374 P) .nil .nil) (.node (oe502 P) .nil .nil)))))
noncomputable abbrev tE_30 (P : Params) : BT := (.node (oc30 P) (.node (oc46 P) (.node (oc78 P) (.node (od142 P) (.node (od270 P) .nil .nil) (.node (oe398 P) .nil .nil)) (.node (od206 P) (.node (oe334 P) .nil .nil) (.node (oe462 P) .nil .nil))) (.node (oc110 P) (.node (od174 P) (.node (od302 P) .nil .nil) (.node (oe430 P) .nil .nil)) (.node (od238 P) (.node (oe366 P) .nil .nil) (.node (oe494 P) .nil .nil)))) (.node (oc62 P) (.node (oc94 P) (.node (od158 P) (.node (od286 P) .nil .nil) (.node (oe414 P) .nil .nil)) (.node (od222 P) (.node (oe350 P) .nil .nil) (.node (oe478 P) .nil .nil))) (.node (od126 P) (.node (od190 P) (.node (oe318 P) .nil .nil) (.node (oe446 P) .nil .nil)) (.node (od254 P) (.node (oe382 P) .nil .nil) .nil))))
noncomputable abbrev tE (P : Params) : BT := (.node (boot_o_0 P) (.node (boot_o_1 P) (.node (oe3 P) (.node (boot_o_7 P) (tE_15 P) (tE_23 P)) (.node (oa11 P) (tE_19 P) (tE_27 P))) (.node (boot_o_5 P) (.node (boot_o_9 P) (tE_17 P) (tE_25 P)) (.node (oa13 P) (tE_21 P) (tE_29 P)))) (.node (boot_o_2 P) (.node (boot_o_4 P) (.node (boot_o_8 P) (tE_16 P) (tE_24 P)) (.node (oe12 P) (tE_20 P) (tE_28 P))) (.node (boot_o_6 P) (.node (boot_o_10 P) (tE_18 P) (tE_26 P)) (.node (oa14 P) (tE_22 P) (tE_30 P)))))
noncomputable abbrev sE (w : World) (os : OsState) : SharedT := ⟨tE w.params,508,⟨[],[],[],0,[],[],false,#[],[],0,false,false,false,0,[2000,10,10],false,0,true,[],[],0,false⟩,Array.mk [],⟨0,0,0,0⟩,1068,os⟩
noncomputable abbrev hZ_21 (P : Params) (r : List Obj) : List Obj := oe504 P :: oe505 P :: oe506 P :: oe507 P :: r
noncomputable abbrev hZ_20 (P : Params) (r : List Obj) : List Obj := oe480 P :: oe481 P :: oe482 P :: oe483 P :: oe484 P :: oe485 P :: oe486 P :: oe487 P :: oe488 P :: oe489 P :: oe490 P :: oe491 P :: oe492 P :: oe493 P :: oe494 P :: oe495 P :: oe496 P :: oe497 P :: oe498 P :: oe499 P :: oe500 P :: oe501 P :: oe502 P :: oe503 P :: r
noncomputable abbrev hZ_19 (P : Params) (r : List Obj) : List Obj := oe456 P :: oe457 P :: oe458 P :: oe459 P :: oe460 P :: oe461 P :: oe462 P :: oe463 P :: oe464 P :: oe465 P :: oe466 P :: oe467 P :: oe468 P :: oe469 P :: oe470 P :: oe471 P :: oe472 P :: oe473 P :: oe474 P :: oe475 P :: oe476 P :: oe477 P :: oe478 P :: oe479 P :: r
noncomputable abbrev hZ_18 (P : Params) (r : List Obj) : List Obj := oe432 P :: oe433 P :: oe434 P :: oe435 P :: oe436 P :: oe437 P :: oe438 P :: oe439 P :: oe440 P :: oe441 P :: oe442 P :: oe443 P :: oe444 P :: oe445 P :: oe446 P :: oe447 P :: oe448 P :: oe449 P :: oe450 P :: oe451 P :: oe452 P :: oe453 P :: oe454 P :: oe455 P :: r
noncomputable abbrev hZ_17 (P : Params) (r : List Obj) : List Obj := oe408 P :: oe409 P :: oe410 P :: oe411 P :: oe412 P :: oe413 P :: oe414 P :: oe415 P :: oe416 P :: oe417 P :: oe418 P :: oe419 P :: oe420 P :: oe421 P :: oe422 P :: oe423 P :: oe424 P :: oe425 P :: oe426 P :: oe427 P :: oe428 P :: oe429 P :: oe430 P :: oe431 P :: r
noncomputable abbrev hZ_16 (P : Params) (r : List Obj) : List Obj := oe384 P :: oe385 P :: oe386 P :: oe387 P :: oe388 P :: oe389 P :: oe390 P :: oe391 P :: oe392 P :: oe393 P :: oe394 P :: oe395 P :: oe396 P :: oe397 P :: oe398 P :: oe399 P :: oe400 P :: oe401 P :: oe402 P :: oe403 P :: oe404 P :: oe405 P :: oe406 P :: oe407 P :: r
noncomputable abbrev hZ_15 (P : Params) (r : List Obj) : List Obj := oe360 P :: oe361 P :: oe362 P :: oe363 P :: oe364 P :: oe365 P :: oe366 P :: oe367 P :: oe368 P :: oe369 P :: oe370 P :: oe371 P :: oe372 P :: oe373 P :: oe374 P :: oe375 P :: oe376 P :: oe377 P :: oe378 P :: oe379 P :: oe380 P :: oe381 P :: oe382 P :: oe383 P :: r
noncomputable abbrev hZ_14 (P : Params) (r : List Obj) : List Obj := oe336 P :: oe337 P :: oe338 P :: oe339 P :: oe340 P :: oe341 P :: oe342 P :: oe343 P :: oe344 P :: oe345 P :: oe346 P :: oe347 P :: oe348 P :: oe349 P :: oe350 P :: oe351 P :: oe352 P :: oe353 P :: oe354 P :: oe355 P :: oe356 P :: oe357 P :: oe358 P :: oe359 P :: r
noncomputable abbrev hZ_13 (P : Params) (r : List Obj) : List Obj := od312 P :: od313 P :: od314 P :: od315 P :: oe316 P :: oe317 P :: oe318 P :: oe319 P :: oe320 P :: oe321 P :: oe322 P :: oe323 P :: oe324 P :: oe325 P :: oe326 P :: oe327 P :: oe328 P :: oe329 P :: oe330 P :: oe331 P :: oe332 P :: oe333 P :: oe334 P :: oe335 P :: r
noncomputable abbrev hZ_12 (P : Params) (r : List Obj) : List Obj := od288 P :: od289 P :: od290 P :: od291 P :: od292 P :: od293 P :: od294 P :: od295 P :: od296 P :: od297 P :: od298 P :: od299 P :: od300 P :: od301 P :: od302 P :: od303 P :: od304 P :: od305 P :: od306 P :: od307 P :: od308 P :: od309 P :: od310 P :: od311 P :: r
noncomputable abbrev hZ_11 (P : Params) (r : List Obj) : List Obj := od264 P :: od265 P :: od266 P :: od267 P :: od268 P :: od269 P :: od270 P :: od271 P :: od272 P :: od273 P :: od274 P :: od275 P :: od276 P :: od277 P :: od278 P :: od279 P :: od280 P :: od281 P :: od282 P :: od283 P :: od284 P :: od285 P :: od286 P :: od287 P :: r
noncomputable abbrev hZ_10 (P : Params) (r : List Obj) : List Obj := od240 P :: od241 P :: od242 P :: od243 P :: od244 P :: od245 P :: od246 P :: od247 P :: od248 P :: od249 P :: od250 P :: od251 P :: od252 P :: od253 P :: od254 P :: od255 P :: od256 P :: od257 P :: od258 P :: od259 P :: od260 P :: od261 P :: od262 P :: od263 P :: r
noncomputable abbrev hZ_9 (P : Params) (r : List Obj) : List Obj := od216 P :: od217 P :: od218 P :: od219 P :: od220 P :: od221 P :: od222 P :: od223 P :: od224 P :: od225 P :: od226 P :: od227 P :: od228 P :: od229 P :: od230 P :: od231 P :: od232 P :: od233 P :: od234 P :: od235 P :: od236 P :: od237 P :: od238 P :: od239 P :: r
noncomputable abbrev hZ_8 (P : Params) (r : List Obj) : List Obj := od192 P :: od193 P :: od194 P :: od195 P :: od196 P :: od197 P :: od198 P :: od199 P :: od200 P :: od201 P :: od202 P :: od203 P :: od204 P :: od205 P :: od206 P :: od207 P :: od208 P :: od209 P :: od210 P :: od211 P :: od212 P :: od213 P :: od214 P :: od215 P :: r
noncomputable abbrev hZ_7 (P : Params) (r : List Obj) : List Obj := od168 P :: od169 P :: od170 P :: od171 P :: od172 P :: od173 P :: od174 P :: od175 P :: od176 P :: od177 P :: od178 P :: od179 P :: od180 P :: od181 P :: od182 P :: od183 P :: od184 P :: od185 P :: od186 P :: od187 P :: od188 P :: od189 P :: od190 P :: od191 P :: r
noncomputable abbrev hZ_6 (P : Params) (r : List Obj) : List Obj := od144 P :: od145 P :: od146 P :: od147 P :: od148 P :: od149 P :: od150 P :: od151 P :: od152 P :: od153 P :: od154 P :: od155 P :: od156 P :: od157 P :: od158 P :: od159 P :: od160 P :: od161 P :: od162 P :: od163 P :: od164 P :: od165 P :: od166 P :: od167 P :: r
noncomputable abbrev hZ_5 (P : Params) (r : List Obj) : List Obj := od120 P :: od121 P :: od122 P :: od123 P :: od124 P :: od125 P :: od126 P :: od127 P :: od128 P :: od129 P :: od130 P :: od131 P :: od132 P :: od133 P :: od134 P :: od135 P :: od136 P :: od137 P :: od138 P :: od139 P :: od140 P :: od141 P :: od142 P :: od143 P :: r
noncomputable abbrev hZ_4 (P : Params) (r : List Obj) : List Obj := oc96 P :: oc97 P :: oc98 P :: oc99 P :: oc100 P :: oc101 P :: oc102 P :: oc103 P :: oc104 P :: oc105 P :: oc106 P :: oc107 P :: oc108 P :: oc109 P :: oc110 P :: oc111 P :: oc112 P :: oc113 P :: oc114 P :: oc115 P :: oc116 P :: od117 P :: od118 P :: od119 P :: r
noncomputable abbrev hZ_3 (P : Params) (r : List Obj) : List Obj := oc72 P :: oc73 P :: oc74 P :: oc75 P :: oc76 P :: oc77 P :: oc78 P :: oc79 P :: oc80 P :: oc81 P :: oc82 P :: oc83 P :: oc84 P :: oc85 P :: oc86 P :: oc87 P :: oc88 P :: oc89 P :: oc90 P :: oc91 P :: oc92 P :: oc93 P :: oc94 P :: oc95 P :: r
noncomputable abbrev hZ_2 (P : Params) (r : List Obj) : List Obj := oc48 P :: oc49 P :: oc50 P :: oc51 P :: oc52 P :: oc53 P :: oc54 P :: oc55 P :: oc56 P :: oc57 P :: oc58 P :: oc59 P :: oc60 P :: oc61 P :: oc62 P :: oc63 P :: oc64 P :: oc65 P :: oc66 P :: oc67 P :: oc68 P :: oc69 P :: oc70 P :: oc71 P :: r
noncomputable abbrev hZ_1 (P : Params) (r : List Obj) : List Obj := oc24 P :: oc25 P :: oc26 P :: oc27 P :: oc28 P :: oc29 P :: oc30 P :: oc31 P :: oc32 P :: oc33 P :: oc34 P :: oc35 P :: oc36 P :: oc37 P :: oc38 P :: oc39 P :: oc40 P :: oc41 P :: oc42 P :: oc43 P :: oc44 P :: oc45 P :: oc46 P :: oc47 P :: r
noncomputable abbrev hZ_0 (P : Params) (r : List Obj) : List Obj := boot_o_0 P :: boot_o_1 P :: boot_o_2 P :: oe3 P :: boot_o_4 P :: boot_o_5 P :: boot_o_6 P :: boot_o_7 P :: boot_o_8 P :: boot_o_9 P :: boot_o_10 P :: oa11 P :: oe12 P :: oa13 P :: oa14 P :: oc15 P :: oc16 P :: oc17 P :: oc18 P :: oc19 P :: oc20 P :: oc21 P :: oc22 P :: oc23 P :: r
noncomputable abbrev hZ (P : Params) : Heap := ⟨Array.mk (hZ_0 P (hZ_1 P (hZ_2 P (hZ_3 P (hZ_4 P (hZ_5 P (hZ_6 P (hZ_7 P (hZ_8 P (hZ_9 P (hZ_10 P (hZ_11 P (hZ_12 P (hZ_13 P (hZ_14 P (hZ_15 P (hZ_16 P (hZ_17 P (hZ_18 P (hZ_19 P (hZ_20 P (hZ_21 P [])))))))))))))))))))))),⟨[],[],[],0,[],[],false,#[],[],0,false,false,false,0,[2000,10,10],false,0,true,[],[],0,false⟩⟩
noncomputable abbrev sZ (w : World) (os : OsState) : Shared := ⟨hZ w.params,Array.mk [],⟨0,0,0,0⟩,1068,os⟩
noncomputable def hd.heap_39 (P : Params) : Frag := ((nat_lit 2),boot_o_2 P) :: ((nat_lit 3),oe3 P) :: ((nat_lit 15),oc15 P) :: ((nat_lit 16),oc16 P) :: ((nat_lit 17),oc17 P) :: ((nat_lit 18),oc18 P) :: ((nat_lit 19),oc19 P) :: ((nat_lit 20),oc20 P) :: ((nat_lit 21),oc21 P) :: ((nat_lit 22),oc22 P) :: ((nat_lit 23),oc23 P) :: ((nat_lit 24),oc24 P) :: ((nat_lit 25),oc25 P) :: ((nat_lit 26),oc26 P) :: ((nat_lit 27),oc27 P) :: ((nat_lit 28),oc28 P) :: ((nat_lit 29),oc29 P) :: ((nat_lit 30),oc30 P) :: ((nat_lit 31),oc31 P) :: ((nat_lit 32),oc32 P) :: ((nat_lit 33),oc33 P) :: ((nat_lit 35),oc35 P) :: ((nat_lit 36),oc36 P) :: ((nat_lit 37),oc37 P) :: ((nat_lit 38),oc38 P) :: ((nat_lit 39),oc39 P) :: ((nat_lit 40),oc40 P) :: ((nat_lit 41),oc41 P) :: ((nat_lit 42),oc42 P) :: ((nat_lit 43),oc43 P) :: ((nat_lit 44),oc44 P) :: ((nat_lit 45),oc45 P) :: ((nat_lit 46),oc46 P) :: ((nat_lit 47),oc47 P) :: ((nat_lit 48),oc48 P) :: ((nat_lit 49),oc49 P) :: ((nat_lit 50),oc50 P) :: ((nat_lit 51),oc51 P) :: ((nat_lit 53),oc53 P) :: ((nat_lit 54),oc54 P) :: ((nat_lit 55),oc55 P) :: ((nat_lit 56),oc56 P) :: ((nat_lit 57),oc57 P) :: ((nat_lit 58),oc58 P) :: ((nat_lit 59),oc59 P) :: ((nat_lit 60),oc60 P) :: ((nat_lit 61),oc61 P) :: ((nat_lit 62),oc62 P) :: ((nat_lit 63),oc63 P) :: ((nat_lit 64),oc64 P) :: ((nat_lit 65),oc65 P) :: ((nat_lit 66),oc66 P) :: ((nat_lit 67),oc67 P) :: ((nat_lit 68),oc68 P) :: ((nat_lit 69),oc69 P) :: ((nat_lit 70),oc70 P) :: ((nat_lit 71),oc71 P) :: ((nat_lit 72),oc72 P) :: ((nat_lit 73),oc73 P) :: ((nat_lit 74),oc74 P) :: ((nat_lit 75),oc75 P) :: ((nat_lit 76),oc76 P) :: ((nat_lit 77),oc77 P) :: ((nat_lit 78),oc78 P) :: ((nat_lit 79),oc79 P) :: ((nat_lit 80),oc80 P) :: ((nat_lit 81),oc81 P) :: ((nat_lit 82),oc82 P) :: ((nat_lit 83),oc83 P) :: ((nat_lit 84),oc84 P) :: ((nat_lit 85),oc85 P) :: ((nat_lit 86),oc86 P) :: ((nat_lit 87),oc87 P) :: ((nat_lit 88),oc88 P) :: ((nat_lit 89),oc89 P) :: ((nat_lit 90),oc90 P) :: ((nat_lit 91),oc91 P) :: ((nat_lit 92),oc92 P) :: ((nat_lit 93),oc93 P) :: ((nat_lit 94),oc94 P) :: ((nat_lit 95),oc95 P) :: ((nat_lit 96),oc96 P) :: ((nat_lit 97),oc97 P) :: ((nat_lit 98),oc98 P) :: ((nat_lit 100),oc100 P) :: ((nat_lit 101),oc101 P) :: ((nat_lit 103),oc103 P) :: ((nat_lit 104),oc104 P) :: ((nat_lit 105),oc105 P) :: ((nat_lit 107),oc107 P) :: ((nat_lit 108),oc108 P) :: ((nat_lit 110),oc110 P) :: ((nat_lit 111),oc111 P) :: ((nat_lit 120),od120 P) :: ((nat_lit 316),oe316 P) :: ((nat_lit 318),oe318 P) :: ((nat_lit 319),oe319 P) :: ((nat_lit 321),oe321 P) :: ((nat_lit 322),oe322 P) :: ((nat_lit 323),oe323 P) :: ((nat_lit 325),oe325 P) :: ((nat_lit 326),oe326 P) :: ((nat_lit 328),oe328 P) :: ((nat_lit 329),oe329 P) :: ((nat_lit 330),oe330 P) :: ((nat_lit 331),oe331 P) :: ((nat_lit 332),oe332 P) :: ((nat_lit 333),oe333 P) :: ((nat_lit 334),oe334 P) :: ((nat_lit 335),oe335 P) :: ((nat_lit 338),oe338 P) :: ((nat_lit 339),oe339 P) :: ((nat_lit 340),oe340 P) :: ((nat_lit 343),oe343 P) :: ((nat_lit 344),oe344 P) :: ((nat_lit 345),oe345 P) :: ((nat_lit 347),oe347 P) :: ((nat_lit 348),oe348 P) :: ((nat_lit 350),oe350 P) :: ((nat_lit 351),oe351 P) :: ((nat_lit 352),oe352 P) :: ((nat_lit 354),oe354 P) :: ((nat_lit 355),oe355 P) :: ((nat_lit 357),oe357 P) :: ((nat_lit 358),oe358 P) :: ((nat_lit 359),oe359 P) :: ((nat_lit 361),oe361 P) :: ((nat_lit 362),oe362 P) :: ((nat_lit 364),oe364 P) :: ((nat_lit 365),oe365 P) :: ((nat_lit 366),oe366 P) :: ((nat_lit 368),oe368 P) :: ((nat_lit 369),oe369 P) :: ((nat_lit 371),oe371 P) :: ((nat_lit 372),oe372 P) :: ((nat_lit 373),oe373 P) :: ((nat_lit 375),oe375 P) :: ((nat_lit 376),oe376 P) :: ((nat_lit 378),oe378 P) :: ((nat_lit 379),oe379 P) :: ((nat_lit 380),oe380 P) :: ((nat_lit 383),oe383 P) :: ((nat_lit 384),oe384 P) :: ((nat_lit 385),oe385 P) :: ((nat_lit 388),oe388 P) :: ((nat_lit 389),oe389 P) :: ((nat_lit 390),oe390 P) :: ((nat_lit 392),oe392 P) :: ((nat_lit 393),oe393 P) :: ((nat_lit 395),oe395 P) :: ((nat_lit 396),oe396 P) :: ((nat_lit 397),oe397 P) :: ((nat_lit 399),oe399 P) :: ((nat_lit 400),oe400 P) :: ((nat_lit 402),oe402 P) :: ((nat_lit 403),oe403 P) :: ((nat_lit 404),oe404 P) :: ((nat_lit 406),oe406 P) :: ((nat_lit 407),oe407 P) :: ((nat_lit 409),oe409 P) :: ((nat_lit 410),oe410 P) :: ((nat_lit 411),oe411 P) :: ((nat_lit 412),oe412 P) :: ((nat_lit 413),oe413 P) :: ((nat_lit 414),oe414 P) :: ((nat_lit 415),oe415 P) :: ((nat_lit 416),oe416 P) :: ((nat_lit 417),oe417 P) :: ((nat_lit 419),oe419 P) :: ((nat_lit 420),oe420 P) :: ((nat_lit 422),oe422 P) :: ((nat_lit 423),oe423 P) :: ((nat_lit 424),oe424 P) :: ((nat_lit 426),oe426 P) :: ((nat_lit 427),oe427 P) :: ((nat_lit 429),oe429 P) :: ((nat_lit 430),oe430 P) :: ((nat_lit 431),oe431 P) :: ((nat_lit 433),oe433 P) :: ((nat_lit 434),oe434 P) :: ((nat_lit 436),oe436 P) :: ((nat_lit 437),oe437 P) :: ((nat_lit 438),oe438 P) :: ((nat_lit 441),oe441 P) :: ((nat_lit 442),oe442 P) :: ((nat_lit 443),oe443 P) :: ((nat_lit 445),oe445 P) :: ((nat_lit 446),oe446 P) :: ((nat_lit 448),oe448 P) :: ((nat_lit 449),oe449 P) :: ((nat_lit 450),oe450 P) :: ((nat_lit 453),oe453 P) :: ((nat_lit 454),oe454 P) :: ((nat_lit 455),oe455 P) :: ((nat_lit 458),oe458 P) :: ((nat_lit 459),oe459 P) :: ((nat_lit 460),oe460 P) :: ((nat_lit 463),oe463 P) :: ((nat_lit 464),oe464 P) :: ((nat_lit 465),oe465 P) :: ((nat_lit 467),oe467 P) :: ((nat_lit 468),oe468 P) :: ((nat_lit 470),oe470 P) :: ((nat_lit 471),oe471 P) :: ((nat_lit 472),oe472 P) :: ((nat_lit 474),oe474 P) :: ((nat_lit 475),oe475 P) :: ((nat_lit 477),oe477 P) :: ((nat_lit 478),oe478 P) :: ((nat_lit 479),oe479 P) :: ((nat_lit 481),oe481 P) :: ((nat_lit 482),oe482 P) :: ((nat_lit 484),oe484 P) :: ((nat_lit 485),oe485 P) :: ((nat_lit 486),oe486 P) :: ((nat_lit 488),oe488 P) :: ((nat_lit 489),oe489 P) :: ((nat_lit 491),oe491 P) :: ((nat_lit 492),oe492 P) :: ((nat_lit 493),oe493 P) :: ((nat_lit 496),oe496 P) :: ((nat_lit 497),oe497 P) :: ((nat_lit 498),oe498 P) :: ((nat_lit 501),oe501 P) :: ((nat_lit 502),oe502 P) :: ((nat_lit 503),oe503 P) :: ((nat_lit 506),oe506 P) :: ((nat_lit 507),oe507 P) :: []
noncomputable def hd.as : List Addr := [(nat_lit 2),(nat_lit 3),(nat_lit 15),(nat_lit 16),(nat_lit 17),(nat_lit 18),(nat_lit 19),(nat_lit 20),(nat_lit 21),(nat_lit 22),(nat_lit 23),(nat_lit 24),(nat_lit 25),(nat_lit 26),(nat_lit 27),(nat_lit 28),(nat_lit 29),(nat_lit 30),(nat_lit 31),(nat_lit 32),(nat_lit 33),(nat_lit 35),(nat_lit 36),(nat_lit 37),(nat_lit 38),(nat_lit 39),(nat_lit 40),(nat_lit 41),(nat_lit 42),(nat_lit 43),(nat_lit 44),(nat_lit 45),(nat_lit 46),(nat_lit 47),(nat_lit 48),(nat_lit 49),(nat_lit 50),(nat_lit 51),(nat_lit 53),(nat_lit 54),(nat_lit 55),(nat_lit 56),(nat_lit 57),(nat_lit 58),(nat_lit 59),(nat_lit 60),(nat_lit 61),(nat_lit 62),(nat_lit 63),(nat_lit 64),(nat_lit 65),(nat_lit 66),(nat_lit 67),(nat_lit 68),(nat_lit 69),(nat_lit 70),(nat_lit 71),(nat_lit 72),(nat_lit 73),(nat_lit 74),(nat_lit 75),(nat_lit 76),(nat_lit 77),(nat_lit 78),(nat_lit 79),(nat_lit 80),(nat_lit 81),(nat_lit 82),(nat_lit 83),(nat_lit 84),(nat_lit 85),(nat_lit 86),(nat_lit 87),(nat_lit 88),(nat_lit 89),(nat_lit 90),(nat_lit 91),(nat_lit 92),(nat_lit 93),(nat_lit 94),(nat_lit 95),(nat_lit 96),(nat_lit 97),(nat_lit 98),(nat_lit 100),(nat_lit 101),(nat_lit 103),(nat_lit 104),(nat_lit 105),(nat_lit 107),(nat_lit 108),(nat_lit 110),(nat_lit 111),(nat_lit 120),(nat_lit 316),(nat_lit 318),(nat_lit 319),(nat_lit 321),(nat_lit 322),(nat_lit 323),(nat_lit 325),(nat_lit 326),(nat_lit 328),(nat_lit 329),(nat_lit 330),(nat_lit 331),(nat_lit 332),(nat_lit 333),(nat_lit 334),(nat_lit 335),(nat_lit 338),(nat_lit 339),(nat_lit 340),(nat_lit 343),(nat_lit 344),(nat_lit 345),(nat_lit 347),(nat_lit 348),(nat_lit 350),(nat_lit 351),(nat_lit 352),(nat_lit 354),(nat_lit 355),(nat_lit 357),(nat_lit 358),(nat_lit 359),(nat_lit 361),(nat_lit 362),(nat_lit 364),(nat_lit 365),(nat_lit 366),(nat_lit 368),(nat_lit 369),(nat_lit 371),(nat_lit 372),(nat_lit 373),(nat_lit 375),(nat_lit 376),(nat_lit 378),(nat_lit 379),(nat_lit 380),(nat_lit 383),(nat_lit 384),(nat_lit 385),(nat_lit 388),(nat_lit 389),(nat_lit 390),(nat_lit 392),(nat_lit 393),(nat_lit 395),(nat_lit 396),(nat_lit 397),(nat_lit 399),(nat_lit 400),(nat_lit 402),(nat_lit 403),(nat_lit 404),(nat_lit 406),(nat_lit 407),(nat_lit 409),(nat_lit 410),(nat_lit 411),(nat_lit 412),(nat_lit 413),(nat_lit 414),(nat_lit 415),(nat_lit 416),(nat_lit 417),(nat_lit 419),(nat_lit 420),(nat_lit 422),(nat_lit 423),(nat_lit 424),(nat_lit 426),(nat_lit 427),(nat_lit 429),(nat_lit 430),(nat_lit 431),(nat_lit 433),(nat_lit 434),(nat_lit 436),(nat_lit 437),(nat_lit 438),(nat_lit 441),(nat_lit 442),(nat_lit 443),(nat_lit 445),(nat_lit 446),(nat_lit 448),(nat_lit 449),(nat_lit 450),(nat_lit 453),(nat_lit 454),(nat_lit 455),(nat_lit 458),(nat_lit 459),(nat_lit 460),(nat_lit 463),(nat_lit 464),(nat_lit 465),(nat_lit 467),(nat_lit 468),(nat_lit 470),(nat_lit 471),(nat_lit 472),(nat_lit 474),(nat_lit 475),(nat_lit 477),(nat_lit 478),(nat_lit 479),(nat_lit 481),(nat_lit 482),(nat_lit 484),(nat_lit 485),(nat_lit 486),(nat_lit 488),(nat_lit 489),(nat_lit 491),(nat_lit 492),(nat_lit 493),(nat_lit 496),(nat_lit 497),(nat_lit 498),(nat_lit 501),(nat_lit 502),(nat_lit 503),(nat_lit 506),(nat_lit 507)]
@[reducible] noncomputable def bodyAll : List Stmt := S0 :: S1 :: S2 :: S3 :: S4 :: S5 :: S6 :: S7 :: S8 :: S9 :: S10 :: S11 :: S12 :: S13 :: S14 :: S15 :: S16 :: S17 :: S18 :: S19 :: S20 :: S21 :: S22 :: S23 :: S24 :: S25 :: S26 :: S27 :: S28 :: S29 :: S30 :: S31 :: S32 :: S33 :: S34 :: S35 :: S36 :: S37 :: S38 :: S39 :: S40 :: S41 :: S42 :: S43 :: S44 :: S45 :: S46 :: S47 :: S48 :: S49 :: S50 :: S51 :: S52 :: S53 :: S54 :: S55 :: S56 :: []
@[reducible] noncomputable def prx : Program := useP bodyAll _ _ _ _ _ _ _ _ _ (by show sureP bodyAll rfl;trivial)
noncomputable def hd.view_39 : Program := { prx with main := { prx.main with body := S0 :: S2 :: S3 :: S4 :: S5 :: S6 :: S7 :: S8 :: S9 :: S10 :: S11 :: S12 :: S13 :: S14 :: S15 :: S16 :: S17 :: S18 :: S20 :: S21 :: S22 :: S23 :: S24 :: S25 :: S26 :: S27 :: S28 :: S29 :: S30 :: S31 :: S32 :: S33 :: S35 :: S36 :: S37 :: S38 :: S39 :: S40 :: S41 :: S42 :: S43 :: S44 :: S45 :: S46 :: S47 :: S48 :: S49 :: S50 :: S51 :: S52 :: S53 :: S54 :: S55 :: S56 :: [] } }
theorem prx_eq : prx = pr := rfl
end
end
section
open PySem.Calls
noncomputable section
noncomputable def bd : List Stmt := behindTheImports prx
noncomputable def en : Env := { scope := prx.main.scope,locals := mainNs,globals := mainNs,cells := [],code := .ref 13,frame := some 14 }
noncomputable def cE : Code := .body bd en
noncomputable def fr1 : List Frame := [topFrame ⟨0,0,0,0⟩]
noncomputable def l1 : List Stmt := bd.take 16
noncomputable def l2 : List Stmt := (bd.drop 16).take 1
noncomputable def l3 : List Stmt := bd.drop 17
noncomputable def rA : String := "special-get-raises"
noncomputable def rB : String := "comprehension-iter-twice"
noncomputable def gT (p : Program) (n : Nat) (b : List Stmt) (e : Env) (c : Code) (o : Pos) (f : List Frame) (s : OsState → SharedT) (w : World) : OsState → Option (Flow × SharedT × Code × Pos) := fun os=>segRunT treeTable p w 11 (some (.ref 6)) 1 n (s os) (piecesOf b e c o f)
theorem gT_e : gT = gT := rfl
end
name_quick Mine.gT for gT by gT_e
noncomputable section
noncomputable def q1L (w : World) : OsState → Option (Flow × SharedT × Code × Pos) := gT prx 1655 l1 en cE ⟨0,0,0,0⟩ fr1 (sB w) w
noncomputable def q1R (w : World) : OsState → Option (Flow × SharedT × Code × Pos) := fun os=>some (.next,sC w os,cE,⟨33,0,34,63⟩)
noncomputable def q2L (w : World) : OsState → Option (Flow × SharedT × Code × Pos) := gT prx 5856 l2 en cE ⟨33,0,34,63⟩ fr1 (sC w) w
noncomputable def q2R (w : World) : OsState → Option (Flow × SharedT × Code × Pos) := fun os=>some (.next,sD w os,cE,⟨35,0,35,13⟩)
noncomputable def q3L (w : World) : OsState → Option (Flow × SharedT × Code × Pos) := gT prx 1055 l3 en cE ⟨35,0,35,13⟩ fr1 (sD w) w
noncomputable def q3R (w : World) : OsState → Option (Flow × SharedT × Code × Pos) := fun os=>some (.next,sE w os,cE,⟨272,0,285,46⟩)
theorem q1_false (w : World) : q1L (w.withFollow "special-get-raises" false) = q1R (w.withFollow "special-get-raises" false) := by
  delta q1L
  rw [PySem.W.Fast.Mine.gT_eq]
  kernel_rfl
theorem q2_false_false (w : World) : q2L ((w.withFollow "special-get-raises" false).withFollow "comprehension-iter-twice" false) = q2R ((w.withFollow "special-get-raises" false).withFollow "comprehension-iter-twice" false) := by
  delta q2L
  rw [PySem.W.Fast.Mine.gT_eq]
  kernel_rfl
theorem q2_false_true (w : World) : q2L ((w.withFollow "special-get-raises" false).withFollow "comprehension-iter-twice" true) = q2R ((w.withFollow "special-get-raises" false).withFollow "comprehension-iter-twice" true) := by
  delta q2L
  rw [PySem.W.Fast.Mine.gT_eq]
  kernel_rfl
theorem q1_true (w : World) : q1L (w.withFollow "special-get-raises" true) = q1R (w.withFollow "special-get-raises" true) := by
  delta q1L
  rw [PySem.W.Fast.Mine.gT_eq]
  kernel_rfl
theorem q2_true_false (w : World) : q2L ((w.withFollow "special-get-raises" true).withFollow "comprehension-iter-twice" false) = q2R ((w.withFollow "special-get-raises" true).withFollow "comprehension-iter-twice" false) := by
  delta q2L
  rw [PySem.W.Fast.Mine.gT_eq]
  kernel_rfl
theorem q2_true_true (w : World) : q2L ((w.withFollow "special-get-raises" true).withFollow "comprehension-iter-twice" true) = q2R ((w.withFollow "special-get-raises" true).withFollow "comprehension-iter-twice" true) := by
  delta q2L
  rw [PySem.W.Fast.Mine.gT_eq]
  kernel_rfl
theorem q3 (w : World) : q3L (w) = q3R (w) := by
  delta q3L
  rw [PySem.W.Fast.Mine.gT_eq]
  kernel_rfl
noncomputable def g0 (p : Program) (w : World) : OsState → Option (Shared × Thread) := fun os=>topGo treeTable p w 11 (some (.ref 6)) 12 ⟨boot_heap w.params,Array.mk [],boot_drawn,boot_toks,os⟩ (topStub p)
theorem g0_e : g0 = g0 := rfl
end
name_quick Mine.g0 for g0 by g0_e
noncomputable section
noncomputable def g0r (c : Code) (f : List Frame) (s : OsState → Shared) : OsState → Option (Shared × Thread) := fun os=>some (s os,⟨denote treeTable c,c,⟨0,0,0,0⟩,f⟩)
theorem g0r_e : g0r = g0r := rfl
end
name_quick Mine.g0r for g0r by g0r_e
noncomputable section
noncomputable def q0L (w : World) : OsState → Option (Shared × Thread) := g0 prx w
noncomputable def q0R (w : World) : OsState → Option (Shared × Thread) := g0r cE fr1 (sA w)
theorem q0 (w : World) : q0L w = q0R w := by
  delta q0L q0R
  rw [PySem.W.Fast.Mine.g0_eq,PySem.W.Fast.Mine.g0r_eq]
  kernel_rfl
noncomputable def gb (p : Program) (b : List Stmt) (e : Env) (c : Code) (o : Pos) (f : List Frame) (s : OsState → Shared) (w : World) : OsState → Option (Flow × Shared × Code × Pos) := fun os=>segRun treeTable p w 11 (some (.ref 6)) 1 1 (s os) (blockOf b e c o f)
theorem gb_e : gb = gb := rfl
end
name_quick Mine.gb for gb by gb_e
noncomputable section
noncomputable def qbL (w : World) : OsState → Option (Flow × Shared × Code × Pos) := gb prx bd en cE ⟨0,0,0,0⟩ fr1 (sA w) w
noncomputable def qbR (w : World) : OsState → Option (Flow × Shared × Code × Pos) := fun os=>some (.next,(sB w os).abs,cE,⟨0,0,0,0⟩)
theorem qb (w : World) : qbL (w) = qbR (w) := by
  delta qbL
  rw [PySem.W.Fast.Mine.gb_eq]
  kernel_rfl
noncomputable def gf (p : Program) (c : Code) (o : Pos) (f : List Frame) (s : OsState → SharedT) (w : World) : OsState → Option Shared := fun os=>topRun treeTable p w 11 (some (.ref 6)) 2 (s os).abs ⟨doneF .next,c,o,f⟩
theorem gf_e : gf = gf := rfl
end
name_quick Mine.gf for gf by gf_e
noncomputable section
noncomputable def qfL (w : World) : OsState → Option Shared := gf prx cE ⟨272,0,285,46⟩ fr1 (sE w) w
noncomputable def qfR (w : World) : OsState → Option Shared := fun os=>some (sZ w os)
theorem qf (w : World) : qfL (w) = qfR (w) := by
  delta qfL
  rw [PySem.W.Fast.Mine.gf_eq]
  kernel_rfl
theorem q1 (w : World) : q1L w = q1R w := byRow2 "special-get-raises" (P := fun w=>q1L w = q1R w) q1_false q1_true w
theorem q2 (w : World) : q2L w = q2R w := byRow2 "comprehension-iter-twice" (P := fun w=>q2L w = q2R w) (byRow2 "special-get-raises" (P := fun w=>q2L (w.withFollow "comprehension-iter-twice" false) = q2R (w.withFollow "comprehension-iter-twice" false)) q2_false_false q2_true_false) (byRow2 "special-get-raises" (P := fun w=>q2L (w.withFollow "comprehension-iter-twice" true) = q2R (w.withFollow "comprehension-iter-twice" true)) q2_false_true q2_true_true) w
theorem bd_eq : bd = l1 ++ (l2 ++ (l3 ++ [])) := by kernel_rfl
theorem run_all (w : World) (os : OsState) : topRun treeTable prx w 11 (some (.ref 6)) (12 + (1 + (1655 + (5856 + (1055 + 2))))) ⟨boot_heap w.params,Array.mk [],boot_drawn,boot_toks,os⟩ (topStub prx) = some ⟨hZ w.params,Array.mk [],⟨0,0,0,0⟩,1068,os⟩ :=
  go_top (congrFun (q0 w) os) (piece_block (congrFun (qb w) os) ((congrArg (fun l=>topRun treeTable prx w 11 (some (.ref 6)) (1655 + (5856 + (1055 + 2))) (sB w os).abs (restOf l en cE ⟨0,0,0,0⟩ [topFrame ⟨0,0,0,0⟩])) bd_eq).trans
    (piece_app (segRun_of (congrFun (q1 w) os)) (piece_app (segRun_of (congrFun (q2 w) os)) (piece_app (segRun_of (congrFun (q3 w) os)) (piece_nil (congrFun (qf w) os)))))))
noncomputable def looseQ : List Str := [Str.ofString "REGISTER_NAMES",Str.ofString "INSTRUCTIONS",Str.ofString "PLACES",Str.ofString "BOUNDS",Str.ofString "NAMES_BY_BASE",Str.ofString "FENCE_BITS"]
noncomputable def HK : Hook := kHook hd.heap_39 hd.as (fun _=>by kernel_rfl)
noncomputable def Xt : Shared → Bool := fun s=>xlAt hd.view_39 [] s && recOk [] s
noncomputable def gqm (p : Program) (P : Params) (h : Heap) (z : Shared) : Bool := staticsOk (importedModules p.main.body) (boot_heap P) h && namesBound p h && gensDone z && laidKept (boot_heap P) h
theorem gqm_e : gqm = gqm := rfl
end
name_quick Mine.gqm for gqm by gqm_e
noncomputable section
theorem qm (w : World) : (fun (os : OsState)=>gqm prx w.params (hZ w.params) ⟨hZ w.params,Array.mk [],⟨0,0,0,0⟩,1068,os⟩) = (fun (_ : OsState)=>true) := by
  rw [PySem.W.Fast.Mine.gqm_eq]
  kernel_rfl
noncomputable def gqo1 (v : Program) (z : Shared) := seen ((recsOf v).map (·.name)) (ownsOf v) [] { z with gens := #[] }
theorem gqo1_e : gqo1 = gqo1 := rfl
end
name_quick Mine.gqo1 for gqo1 by gqo1_e
noncomputable section
theorem qo1 (w : World) : (fun (os : OsState)=>gqo1 hd.view_39 (sZ w os)) = (fun (_ : OsState)=>expectedOf hd.view_39) := by
  rw [PySem.W.Fast.Mine.gqo1_eq]
  kernel_rfl
theorem qo2 (w : World) : (fun (os : OsState)=>(sZ w os).heap.bltView) = fun (_ : OsState)=>bltViewBooted := by kernel_rfl
noncomputable def gqo3 (v : Program) (m : List Str) (l : List Str) (x : Shared → Bool) (z : Shared) : Bool := (z.heap.keysOk (looseW v l) ((recsOf v).map (·.name)) ((litsOf v).map (·.1)) ((clssOf v (looseW v l)).map (·.name)) && z.heap.accountedOkI m && z.heap.isNs mainGlobals && z.heap.isNs builtinsNs && tablesOk v z.heap && x z && (if true then z.gens.size == 0 else !leftWithCleanup z.gens))
theorem gqo3_e : gqo3 = gqo3 := rfl
end
name_quick Mine.gqo3 for gqo3 by gqo3_e
noncomputable section
theorem qo3 (w : World) : (fun (os : OsState)=>gqo3 hd.view_39 (importedModules prx.main.body) looseQ Xt (sZ w os)) = (fun (_ : OsState)=>true) := by
  rw [PySem.W.Fast.Mine.gqo3_eq]
  kernel_rfl
noncomputable def gqo4 (v : Program) (z : Shared) : Bool := tabsOk v z
theorem gqo4_e : gqo4 = gqo4 := rfl
end
name_quick Mine.gqo4 for gqo4 by gqo4_e
noncomputable section
theorem qo4 (w : World) : (fun (os : OsState)=>gqo4 hd.view_39 (sZ w os)) = (fun (_ : OsState)=>true) := by
  rw [PySem.W.Fast.Mine.gqo4_eq]
  kernel_rfl
noncomputable def gqo5 (v : Program) (z : Shared) := pinSeenD v (drecsOf v) z
theorem gqo5_e : gqo5 = gqo5 := rfl
end
name_quick Mine.gqo5 for gqo5 by gqo5_e
noncomputable section
theorem qo5 (w : World) : (fun (os : OsState)=>gqo5 hd.view_39 (sZ w os)) = (fun (_ : OsState)=>pinGoodD (drecsOf hd.view_39)) := by
  rw [PySem.W.Fast.Mine.gqo5_eq]
  kernel_rfl
noncomputable def gqo6 (v : Program) (l : List Str) (z : Shared) := plainSeenE v (looseW v l) z
theorem gqo6_e : gqo6 = gqo6 := rfl
end
name_quick Mine.gqo6 for gqo6 by gqo6_e
noncomputable section
theorem qo6 (w : World) : (fun (os : OsState)=>gqo6 hd.view_39 looseQ (sZ w os)) = (fun (_ : OsState)=>plainGoodE hd.view_39 (looseW hd.view_39 looseQ)) := by
  rw [PySem.W.Fast.Mine.gqo6_eq]
  kernel_rfl
noncomputable def gqo7 (v : Program) (l : List Str) (z : Shared) := plainSeenD v l z
theorem gqo7_e : gqo7 = gqo7 := rfl
end
name_quick Mine.gqo7 for gqo7 by gqo7_e
noncomputable section
theorem qo7 (w : World) : (fun (os : OsState)=>gqo7 hd.view_39 looseQ (sZ w os)) = (fun (_ : OsState)=>plainGoodD hd.view_39 looseQ) := by
  rw [PySem.W.Fast.Mine.gqo7_eq]
  kernel_rfl
noncomputable def gqo8 (v : Program) (z : Shared) := wideSeen v z
theorem gqo8_e : gqo8 = gqo8 := rfl
end
name_quick Mine.gqo8 for gqo8 by gqo8_e
noncomputable section
theorem qo8 (w : World) : (fun (os : OsState)=>gqo8 hd.view_39 (sZ w os)) = (fun (_ : OsState)=>wideGood hd.view_39) := by
  rw [PySem.W.Fast.Mine.gqo8_eq]
  kernel_rfl
noncomputable def gqo9 (v : Program) (l : List Str) (z : Shared) := clsSeenW v l z
theorem gqo9_e : gqo9 = gqo9 := rfl
end
name_quick Mine.gqo9 for gqo9 by gqo9_e
noncomputable section
theorem qo9 (w : World) : (fun (os : OsState)=>gqo9 hd.view_39 looseQ (sZ w os)) = (fun (_ : OsState)=>clsGoodW hd.view_39 looseQ) := by
  rw [PySem.W.Fast.Mine.gqo9_eq]
  kernel_rfl
noncomputable def gqy (a : List Addr) (z : Shared) := a.map z.heap.get?
theorem gqy_e : gqy = gqy := rfl
end
name_quick Mine.gqy for gqy by gqy_e
noncomputable section
theorem qy (w : World) : (fun (os : OsState)=>gqy hd.as (sZ w os)) = (fun (_ : OsState)=>(hd.heap_39 w.params).map fun p=>some p.2) := by
  rw [PySem.W.Fast.Mine.gqy_eq]
  kernel_rfl
theorem ql (w : World) : (fun (os : OsState)=>((staticsOk (importedModules prx.main.body) (boot_heap w.params) (hZ w.params) && namesBound prx (hZ w.params) && gensDone ⟨hZ w.params,Array.mk [],⟨0,0,0,0⟩,1068,os⟩ && laidKept (boot_heap w.params) (hZ w.params)),openSeen hd.view_39 looseQ (importedModules prx.main.body) Xt true ⟨hZ w.params,Array.mk [],⟨0,0,0,0⟩,1068,os⟩,HK.obs ⟨hZ w.params,Array.mk [],⟨0,0,0,0⟩,1068,os⟩)) = fun _=>(true,openGood hd.view_39 looseQ,HK.val w) :=
  funext fun os=>looks_pair (congrFun (qm w) os) (looks_pair (looks_pair (congrFun (qo1 w) os) (looks_pair (congrFun (qo2 w) os) (looks_pair (congrFun (qo3 w) os) (looks_pair (congrFun (qo4 w) os) (looks_pair (congrFun (qo5 w) os) (looks_pair (congrFun (qo6 w) os)
    (looks_pair (congrFun (qo7 w) os) (looks_pair (congrFun (qo8 w) os) (congrFun (qo9 w) os))))))))) (congrFun (qy w) os))
theorem hl : LeftO prx hd.view_39 looseQ Xt HK.obs HK.val 17252 :=
  LeftO.of_pieces (H₀ := boot_heap) (H₁ := hZ) (gs₀ := Array.mk []) (gs₁ := Array.mk []) (d₀ := boot_drawn) (d₁ := ⟨0,0,0,0⟩) (k₀ := boot_toks) (k₁ := 1068) (m₀ := 11) (ann := some (.ref 6)) (M := 12 + (1 + (1655 + (5856 + (1055 + 2)))))
    (boot_open (by kernel_rfl) (by decide) (fun s=>by kernel_rfl)) (fun w=>by kernel_rfl) run_all (by decide) ql
theorem hlp : LeftO pr hd.view_39 looseQ Xt HK.obs HK.val 17252 := prx_eq ▸ hl
noncomputable def glw (q : PySem.W.OpenLaw) : Bool := OpenLaw.wellSaid q
theorem glw_e : glw = glw := rfl
end
name_quick Mine.glw for glw by glw_e
noncomputable section
noncomputable def lwx : PySem.W.OpenLaw := { prog := prx,name := (PySem.Str.ofString "law"),about := [(PySem.Str.ofString "disassemble")],foot := 22,most := some 63,bound := none,writes := false }
theorem lwx_eq : lwx = PySem.Challenge.rw_nm0011_01 := by kernel_rfl
theorem lw_said : glw lwx = true := by
  rw [PySem.W.Fast.Mine.glw_eq]
  kernel_rfl
theorem law_said : OpenLaw.wellSaid PySem.Challenge.rw_nm0011_01 = true := lwx_eq ▸ lw_said
end
end
section
noncomputable abbrev looseL : List Str := looseW hd.view_39 [Str.ofString "REGISTER_NAMES",Str.ofString "INSTRUCTIONS",Str.ofString "PLACES",Str.ofString "BOUNDS",Str.ofString "NAMES_BY_BASE",Str.ofString "FENCE_BITS"]
abbrev Cb (w : World) (mean : ExcName → Option Value) (mg mb : Str → Option Value) (f : Addr) (D : Nat) (news : List (Addr × Obj)) (pre : Prop) (vs : List Value) (R : Tok → Value) : Prop :=
  ∀ (dp un : Nat) (gd : Option (List Code)) (cn : Str) (cs : Scope) (a : Addr) (ccd : Value) (cl : List (Str × Addr)) (outer : List Env) (A₀ : Around) (base h₀ : Heap) (L : Addr) (m : Str → Option Value) (s : Shared) (Q E : Value → Shared → Prop),
    Below A₀ base outer h₀ → Fr h₀ L s.heap m → (hd.heap_39 w.params).In h₀ → News h₀ L s.heap news → Top hd.view_39 looseL mean mg mb h₀ → cs.kind = .function →
    pre → dp + D < recursionLimit → un + 8 * D < cLine → (∀ (t : Tok) (h' : Heap) (tk' : Nat),Fr h₀ L h' m → News h₀ L h' news → Q (R t) { s with heap := h',toks := tk' }) →
      wpAny (model PySem.Challenge.rw_nm0011_01.row.prog w) (ktrTop dp un gd cn cs L a ccd cl outer) (call (.ref f) vs) Q E s
theorem cb_use {w : World} {mean : ExcName → Option Value} {mg mb : Str → Option Value} {f : Addr} {D : Nat} {news : List (Addr × Obj)} {pre : Prop} {vs : List Value} {R : Tok → Value}
    (C : Cb w mean mg mb f D news pre vs R)
    {dp un : Nat} {gd : Option (List Code)} {cn : Str} {cs : Scope} {a : Addr} {ccd : Value} {cl : List (Str × Addr)} {outer : List Env} {A₀ : Around} {base h₀ : Heap} {L : Addr} {m : Str → Option Value} {s : Shared} {Q E : Value → Shared → Prop}
    (B : Below A₀ base outer h₀) (F : Fr h₀ L s.heap m) (X : (hd.heap_39 w.params).In h₀) (N : News h₀ L s.heap news) (T : Top hd.view_39 looseL mean mg mb h₀) (hk : cs.kind = .function)
    (hp : pre) (hd : dp + D < recursionLimit) (hu : un + 8 * D < cLine) (hR : ∀ (t : Tok) (h' : Heap) (tk' : Nat),Fr h₀ L h' m → News h₀ L h' news → Q (R t) { s with heap := h',toks := tk' }) :
    wpAny (model PySem.Challenge.rw_nm0011_01.row.prog w) (ktrTop dp un gd cn cs L a ccd cl outer) (call (.ref f) vs) Q E s :=
  C _ _ _ _ _ _ _ _ _ _ _ _ _ _ _ _ _ B F X N T hk hp hd hu hR
end
set_option maxHeartbeats 8000000
local macro_rules | `(tactic| omega)=>`(tactic| first | exact room (by assumption) rfl | exact room2 (by assumption) rfl | exact room0 (by assumption) | ((try intro (hn9 : _ = _));refine absurd hn9 ?_;first | exact nle1 (by assumption) | exact nle2 (by assumption) | exact nle3 (by assumption) | exact nle4 (by assumption) | exact nll2 (by assumption) | exact nll3 (by assumption)) | lia)
local macro_rules | `(tactic| ktr_room)=>`(tactic| omega)
local macro_rules | `(tactic| ktr_units)=>`(tactic| omega)
local macro_rules | `(tactic| size_fits)=>`(tactic| first | exact sz0 | exact sz1 | exact sz2 | exact sz3)
local macro_rules | `(tactic| kcj_all)=>`(tactic| (with_reducible ((try simp only [List.nil_append,List.cons_append]);first | ((repeat (first | exact sbr | refine sbk ?_ | refine sbs ?_));done) | (refine sba ?_ ?_ <;> (repeat (first | exact sbr | refine sbk ?_ | refine sbs ?_ | exact List.mem_cons_self | refine List.mem_cons_of_mem _ ?_));done))))
local macro_rules | `(tactic| walk_at "getMethod ref")=>`(tactic| k_extra "getMethod ref m")
local macro_rules | `(tactic| walk_at "call builtin:list.index")=>`(tactic| k_extra "call builtin:list.index m")
local macro_rules | `(tactic| walk_at "compareOp Eq ref ref")=>`(tactic| k_extra "compareOp Eq ref ref m")
local macro_rules | `(tactic| walk_at "compareOp NotEq ref ref")=>`(tactic| k_extra "compareOp NotEq ref ref m")
local macro_rules | `(tactic| walk_at "call type:int")=>`(tactic| k_extra "call type:int m")
local macro_rules | `(tactic| walk_at "subscriptTail Name Subscript ref int")=>`(tactic| k_extra "subscriptTail Name Subscript ref int m")
local macro_rules | `(tactic| walk_at "subscriptTail Name Name ref str")=>`(tactic| k_extra "subscriptTail Name Name ref str m")
local macro_rules | `(tactic| walk_at "eval ListComp")=>`(tactic| k_extra "eval ListComp m")
local macro_rules | `(tactic| walk_at "eval Name")=>`(tactic| k_extra "eval Name m")
local macro_rules | `(tactic| walk_at "call builtin:str.join")=>`(tactic| k_extra "call builtin:str.join m")
local macro_rules | `(tactic| walk_at "eval ListComp")=>`(tactic| k_extra "comp")
local macro_rules | `(tactic| walk_at "eval Name")=>`(tactic| k_extra "free")
local macro_rules | `(tactic| walk_at "compareOp NotEq ref ref")=>`(tactic| k_extra "ne")
local macro_rules | `(tactic| walk_at "call builtin:str.find")=>`(tactic| k_extra "find")
local macro_rules | `(tactic| walk_at "subscriptTail Name Name str int")=>`(tactic| k_extra "item")
local macro_rules | `(tactic| walk_at "binaryOp Add str str")=>`(tactic| k_extra "add")
local macro_rules | `(tactic| walk_at "binaryOp Pow int int")=>`(tactic| k_extra "binaryOp Pow int int m")
local macro_rules | `(tactic| walk_at "binaryOp FloorDiv int int")=>`(tactic| k_extra "binaryOp FloorDiv int int m")
local macro_rules | `(tactic| walk_at "subscriptTail Name BinOp str int")=>`(tactic| k_extra "subscriptTail Name BinOp str int m")
local macro_rules | `(tactic| walk_at "subscriptTail Constant BinOp str int")=>`(tactic| k_extra "subscriptTail Constant BinOp str int m")
local macro_rules | `(tactic| walk_at "binaryOp RShift int int")=>`(tactic| k_extra "binaryOp RShift int int m")
local macro_rules | `(tactic| walk_at "ite")=>`(tactic| k_extra "ite")
local macro_rules | `(tactic| walk_at "binaryOp Pow int int")=>`(tactic| k_extra "pow")
local macro_rules | `(tactic| walk_at "exec Assign cons ListComp")=>`(tactic| k_extra "aslc")
local macro_rules | `(tactic| walk_at "exec For Name Call cons nil")=>`(tactic| k_extra "for")
local macro_rules | `(tactic| walk_at "call builtin:dict.setdefault")=>`(tactic| k_extra "call builtin:dict.setdefault cons nil")
local macro_rules | `(tactic| walk_at "exec For Tuple Call cons nil")=>`(tactic| k_extra "forE")
local macro_rules | `(tactic| walk_at "compareOp NotEq ref ref")=>`(tactic| k_extra "compareOp NotEq ref ref")
local macro_rules | `(tactic| walk_at "exec Expr")=>`(tactic| k_extra "exprs")
local macro_rules | `(tactic| walk_at "exec For Name Name cons nil")=>`(tactic| k_extra "for")
local macro_rules | `(tactic| walk_at "eval IfExp")=>`(tactic| k_extra "ifx")
local macro_rules | `(tactic| walk_at "execs cons Assign cons")=>`(tactic| k_extra "execs cons")
local macro_rules | `(tactic| walk_at "execs cons")=>`(tactic| k_extra "execs cons")
local macro_rules | `(tactic| walk_at "execs nil")=>`(tactic| k_extra "execs nil")
local macro_rules | `(tactic| walk_at "call builtin:list.append")=>`(tactic| k_extra "call builtin:list.append cons nil")
local macro_rules | `(tactic| walk_at "exec If")=>`(tactic| k_extra "ifs")
local macro_rules | `(tactic| walk_at "binaryOp Add ref ref")=>`(tactic| k_extra "binaryOp Add ref ref")
local macro_rules | `(tactic| walk_at "compareOp NotEq str str")=>`(tactic| k_extra "compareOp NotEq str str")
local macro_rules | `(tactic| walk_at "compareOp Eq str str")=>`(tactic| k_extra "compareOp Eq str str")
local macro_rules | `(tactic| walk_at "call ref")=>`(tactic| k_extra "call ref cons nil")
local macro_rules | `(tactic| walk_at "exec For Name Name cons nil")=>`(tactic| k_extra "for2")
section
noncomputable def sgn (v : Int) (k : Nat) : Int := if v % 2 ^ k < 2 ^ (k - 1) then v % 2 ^ k else v % 2 ^ k - 2 ^ k
theorem sgn_mask (v k : Int) : Builtin.bitAnd v (1 * 2 ^ k.toNat - 1) = v % 2 ^ k.toNat := by rw [Int.one_mul,kbt_mask]
theorem sgn_top (v k : Int) (hk : 1 ≤ k ∧ k ≤ 32) : (v % 2 ^ k.toNat).fdiv (2 ^ (k - 1).toNat) = 1 ↔ ¬ v % 2 ^ k.toNat < 2 ^ (k.toNat - 1) := by
  have e : (k - 1).toNat = k.toNat - 1 := by omega
  have e2 : (2 : Int) ^ k.toNat = 2 * 2 ^ (k.toNat - 1) := by
    rw [show k.toNat = (k.toNat - 1) + 1 by omega,Int.pow_succ];simp;omega
  have p : (0 : Int) < 2 ^ (k.toNat - 1) := Int.pow_pos (by decide)
  have h0 := Int.emod_nonneg v (b := 2 ^ k.toNat) (by omega)
  have h1 := Int.emod_lt_of_pos v (b := 2 ^ k.toNat) (by omega)
  rw [e,Int.fdiv_eq_ediv_of_nonneg _ (by omega)]
  generalize v % 2 ^ k.toNat = x at *
  rw [e2] at h1
  generalize (2 : Int) ^ (k.toNat - 1) = p2 at *
  constructor
  · intro h hx
    rw [Int.ediv_eq_zero_of_lt h0 hx] at h;cases h
  · intro h
    rw [Int.ediv_eq_iff_of_pos p];omega
theorem signed_end1 {v k : Int} (hp : 1 ≤ k ∧ k ≤ 32) (h : (Builtin.bitAnd v (1 * 2 ^ k.toNat - 1)).fdiv (2 ^ (k - 1).toNat) = 1) : Builtin.bitAnd v (1 * 2 ^ k.toNat - 1) - 1 * 2 ^ k.toNat = sgn v k.toNat := by
  rw [sgn_mask v k] at h ⊢
  rw [sgn_top v k hp] at h
  rw [sgn,if_neg h];omega
theorem signed_end2 {v k : Int} (hp : 1 ≤ k ∧ k ≤ 32) (h : (Builtin.bitAnd v (1 * 2 ^ k.toNat - 1)).fdiv (2 ^ (k - 1).toNat) ≠ 1) : Builtin.bitAnd v (1 * 2 ^ k.toNat - 1) = sgn v k.toNat := by
  rw [sgn_mask v k] at h ⊢
  rw [Ne,sgn_top v k hp,Classical.not_not] at h
  rw [sgn,if_pos h]
theorem ls_and (x m : Int) (h0 : 0 ≤ m) (h : m < 2 ^ 32) : (Builtin.bitAnd x m).natAbs < 2 ^ 64 := by
  have := bitAnd_range x h0
  omega
theorem fd (v : Int) (k : Nat) : v.fdiv (2 ^ k) = v / 2 ^ k := Int.fdiv_eq_ediv_of_nonneg _ (Int.le_of_lt (Int.pow_pos (by decide)))
theorem ls_fdiv (v : Int) (k : Nat) (h : 0 ≤ v ∧ v < 2 ^ 32) : (v.fdiv (2 ^ k)).natAbs < 2 ^ 64 := by
  rw [fd]
  have h1 : 0 ≤ v / 2 ^ k := Int.ediv_nonneg h.1 (Int.le_of_lt (Int.pow_pos (by decide)))
  have h2 : v / 2 ^ k ≤ v := Int.ediv_le_self _ h.1
  omega
theorem bor_add (a b : Int) (k : Nat) (ha : 0 ≤ a) (hb : 0 ≤ b ∧ b < 2 ^ k) : Builtin.bitOr (a * 2 ^ k) b = a * 2 ^ k + b := by
  obtain ⟨a,rfl⟩ := Int.eq_ofNat_of_zero_le ha
  obtain ⟨b,rfl⟩ := Int.eq_ofNat_of_zero_le hb.1
  have hb2 : b < 2 ^ k := by have := hb.2;norm_cast at this
  have h1 : Builtin.bitAnd ((a : Int) * 2 ^ k) (b : Int) = 0 := by
    have e : ((a : Int) * 2 ^ k) = ((2 ^ k * a : Nat) : Int) := by rw [Nat.mul_comm];push_cast;rfl
    rw [e,bitAnd_pp (Int.natCast_nonneg _) (Int.natCast_nonneg _)]
    simp only [Int.toNat_natCast]
    have h : 2 ^ k * a &&& b = 0 := by
      apply Nat.eq_of_testBit_eq
      intro i
      rw [Nat.testBit_and,Nat.zero_testBit,Nat.testBit_two_pow_mul]
      by_cases hi : k ≤ i
      · rw [Nat.testBit_lt_two_pow (Nat.lt_of_lt_of_le hb2 (Nat.pow_le_pow_right (by decide) hi))];simp
      · simp [hi]
    rw [h];rfl
  rw [bitOr_and,h1];omega
end
section
open PyProof.Rows.LCg PySem.Calls
section
variable {prog : Program} {w : World} {A : Around} {E : Value → Shared → Prop} {s : Shared} {h₀ : Heap} {L : Addr} {m : Str → Option Value} {env : Env}
inductive Plain (h₀ : Heap) (L : Addr) (m : Str → Option Value) (s : Shared) (news : List (Addr × Obj)) (R : Value → Prop) (y : Value) (s' : Shared) : Prop
  | mk' (h tk news' : _) (h0 : s' = { s with heap := h,toks := tk }) (h1 : Fr h₀ L h m) (h2 : News h₀ L h news') (h3 : (∀ p ∈ news,p ∈ news')) (h4 : R y) : Plain h₀ L m s news R y s'
theorem plain_intro {news news' : List (Addr × Obj)} {R : Value → Prop} {y : Value} {h : Heap} {tk : Nat} (F : Fr h₀ L h m) (N : News h₀ L h news') (hs : ∀ p ∈ news,p ∈ news') (r : R y) :
    Plain h₀ L m s news R y { s with heap := h,toks := tk } := ⟨h,tk,news',rfl,F,N,hs,r⟩
noncomputable abbrev Elt (prog : Program) (w : World) (A : Around) (h₀ : Heap) (L : Addr) (m : Str → Option Value) (env : Env) (elt : Expr) (x : Str) (scope : Scope) (cl : List (Str × Addr)) (s : Shared) (P : Value → Prop) (news : List (Addr × Obj)) (R : Value → Prop) : Prop :=
  ∀ v I oI C oC D oD m₂ h tk (E' : Value → Shared → Prop),P v → NsObj oC m₂ → m₂ x = some v → Fr h₀ L h m → News h₀ L h ((I,oI) :: (C,oC) :: (D,oD) :: news) → Off3 I C D news → ((@Ne Nat I C) ∧ (@Ne Nat I D) ∧ (@Ne Nat C D)) →
    wpAny (model prog w) A (eval elt (compEnvC scope cl C env)) (Plain h₀ L m { s with heap := h,toks := tk } ((I,oI) :: (C,oC) :: (D,oD) :: news) R) E' { s with heap := h,toks := tk }
theorem rest_plain {elt : Expr} {x : Str} {scope : Scope} {cl : List (Str × Addr)} {S : List (Addr × Obj) → Prop} {P : Nat → Value → Prop} {Fin : List Value → List (Addr × Obj) → Prop} {news : List (Addr × Obj)} {R : Nat → Value → Prop} {n : Nat}
    (hS : S news) (hel : ∀ i,i < n → Elt prog w A h₀ L m env elt x scope cl s (P i) news (R i))
    (hfin : ∀ ys : List Value,ys.length = n → (∀ i,i < n → ∃ y,ys[i]? = some y ∧ R i y) → Fin ys news) :
    ∀ (k i : Nat) (ys : List Value),i + k = n → ys.length = i → (∀ j,j < i → ∃ y,ys[j]? = some y ∧ R j y) → CompRest prog w A h₀ L m env elt x scope cl s S P Fin k i ys news := by
  intro k
  induction k with
  | zero=>exact fun i ys e hl hy=>hfin ys (by omega) (fun j hj=>hy j (by omega))
  | succ k ih =>
    exact fun i ys e hl hy=>CompRest.succ fun v I oI C oC D m₂ h tk E' hv hC hx F N off ne =>
      wpAny_mono (hel i (by omega) v I oI C oC D (lst ys) m₂ h tk E' hv hC hx F N off ne) (fun y s' hp=>by
        obtain ⟨h',tk',news',rfl,F',N',hs,hr⟩ := hp
        refine ⟨h',tk',news,rfl,F',cb_drop N' hs,off,hS,?_⟩
        refine ih (i + 1) (ys ++ [y]) (by omega) (by simp [hl]) fun j hj=>?_
        by_cases hji : j < i
        · obtain ⟨z,hz,hr'⟩ := hy j hji
          exact ⟨z,by rw [List.getElem?_append_left (by omega)];exact hz,hr'⟩
        · obtain rfl : j = i := by omega
          exact ⟨y,by rw [List.getElem?_append_right (by omega)];simp [hl],hr⟩) fun _ _ e=>e
inductive SrcRange (prog : Program) (w : World) (A : Around) (h₀ : Heap) (L : Addr) (m : Str → Option Value) (env : Env) (elt : Expr) (x : Str) (scope : Scope) (cl : List (Str × Addr)) (R : Nat → Value → Prop) (Q : Value → Shared → Prop) (xv : Value) (s₁ : Shared) : Prop
  | mk' (r a b c t u v n news : _) (h0 : xv = .ref r) (h1 : A.handled = none) (h2 : Fr h₀ L s₁.heap m) (h3 : News h₀ L s₁.heap news) (h4 : IsRange s₁.heap r a b c t u v) (h5 : Builtin.Range.small a b c = true) (h6 : Builtin.Range.rangeSize a b c = ((n : Nat) : Int)) (h7 : n ≤ sizeLine) (h8 : (∀ (g : Heap) (i : Nat),i < n → Elt prog w A h₀ L m env elt x scope cl { s₁ with heap := g } (fun y=>∃ t,y = .int (a + (i : Int) * c) t) news (R i))) (h9 : (∀ (ys : List Value) (D : Addr) (h : Heap) (tk : Nat),ys.length = n → (∀ i,i < n → ∃ y,ys[i]? = some y ∧ R i y) → Fr h₀ L h m → News h₀ L h ((D,lst ys) :: news) → Off1 D news → Q (.ref D) { s₁ with heap := h,toks := tk })) : SrcRange prog w A h₀ L m env elt x scope cl R Q xv s₁
theorem comp_range {elt iter : Expr} {x : Str} {px : Pos} {scope : Scope} {cl : List (Str × Addr)} {pos : Pos} {R : Nat → Value → Prop} {Q : Value → Shared → Prop} (F₀ : Fr h₀ L s.heap m)
    (hclos : closureFor scope env = pure cl) (hcell : ∀ y ∈ scope.names,y.2 ≠ .cell) (hkind : scope.kind = .function)
    (hnames : ∀ y ∈ scope.names,y.2 = .local → scope.names.lookup y.1 = some .local) (hx : scope.names.lookup x = some .local)
    (h : wpAny (model prog w) A (eval iter env) (SrcRange prog w A h₀ L m env elt x scope cl R Q) E s)
    (hs : ∀ x,foldedSetIterable iter env x = pure x := by intro _;rfl) :
    wpAny (model prog w) A (eval (.ListComp elt [⟨.Name x px,iter,[],0⟩] scope pos) env) Q E s := by
  rw [eval_ListComp]
  refine wpAny_comprehension_free (use := none) rfl hs hclos hkind hnames (wpAny_mono h (fun xv s₁ h₁=>?_) fun _ _ e=>e)
  obtain ⟨r,a,b,c,t,u,v,n,news,rfl,hh,F,N,hr,hsm,hn,hsz,hel,hq⟩ := h₁
  refine wpAny_pyIter_range hr hsm ?_
  refine block_U (Walks.range hh s₁.heap.objs.size a c n) hsz (fun i h st=>⟨_,st⟩) (S := fun _=>True) (fun i h h' o nw st e e' _ _ _=>?_) hcell hkind hx (by show IsRangeIter _ _ _ _ _;rw [hn];simpa using Heap.get?_push_size _ rfl) (fun b hb=>?_)
    (F.keeps fun _ _ e=>Heap.get?_push_of_some _ e) (N.grown fun _ _ e=>Heap.get?_push_of_some _ e) (Nat.ne_of_lt F.ns.lt) (next_is_new F) (fun p hp=>Nat.ne_of_lt (Heap.lt_size (N p hp).1)) trivial
    (Fin := fun ys nw=>∀ D h tk,Fr h₀ L h m → News h₀ L h ((D,lst ys) :: nw) → Off1 D nw → Q (.ref D) { s₁ with heap := h,toks := tk })
    (rest_plain trivial (hel _) (fun ys hl hy D h tk F' N' o1=>hq ys D h tk hl hy F' N' o1) n 0 [] (by omega) rfl (fun j hj=>absurd hj (Nat.not_lt_zero _))) ?_
  · have st' : h.get? _ = some _ := st
    show h'.get? _ = some _
    rw [e',← e];exact st'
  · rw [List.mem_singleton.mp hb]
    show s₁.heap.objs.size < (s₁.heap.push _).objs.size
    rw [Heap.size_push];exact Nat.lt_succ_self _
  · intro D C h tk m' ys news' F' N' o1 hn' hC₀ hD₀ hCL hDL hCD offC fin
    refine ⟨m',hn',fun h'' hs''=>fin D h'' tk (F'.change hs'' hCL hC₀) (fun p hp=>?_) o1⟩
    refine ⟨hs''.extBut _ _ ?_ (N' p hp).1,(N' p hp).2⟩
    rcases List.mem_cons.mp hp with rfl | hp
    · exact Ne.symm hCD
    · exact offC p hp
end
section
variable {prog : Program} {w : World} {A : Around} {E : Value → Shared → Prop} {s : Shared} {h₀ : Heap} {L : Addr} {m : Str → Option Value} {env : Env} {news : List (Addr × Obj)}
theorem ld_freeC {scope : Scope} {cl : List (Str × Addr)} {C c : Addr} {o : Obj} {x : Str} {pos : Pos} {v : Value} {Q : Value → Shared → Prop} (N : News h₀ L s.heap news) (hc : cl.lookup x = some c) (hm : (c,o) ∈ news) (hd : o.data = .cell (some v)) (h : Q v s)
    (hk : (compEnvC scope cl C env).scope.kind = .function := by rfl) (hl : (compEnvC scope cl C env).kindOf x = some .free := by rfl) (hb : (x == ("__debug__" : Str)) = false := by decide) (hn : (x == ("__classdict__" : Str)) = false := by decide) :
    wpAny (model prog w) A (eval (.Name x pos) (compEnvC scope cl C env)) Q E s := ldFreeK hc ⟨o,N.get hm,hd⟩ h hk hl hb hn
end
end
section
open PyProof.Rows.LCg PySem.Calls
section
variable {prog : Program} {w : World} {A : Around} {E : Value → Shared → Prop} {s : Shared} {h₀ : Heap} {L : Addr} {m : Str → Option Value} {env : Env}
inductive SrcLst (prog : Program) (w : World) (A : Around) (h₀ : Heap) (L : Addr) (m : Str → Option Value) (env : Env) (elt : Expr) (x : Str) (scope : Scope) (cl : List (Str × Addr)) (R : Nat → Value → Prop) (Q : Value → Shared → Prop) (xv : Value) (s₁ : Shared) : Prop
  | mk' (ax vs k news : _) (h0 : xv = .ref ax) (h1 : A.handled = none) (h2 : Fr h₀ L s₁.heap m) (h3 : News h₀ L s₁.heap news) (h4 : (ax,listOf (List.toArray vs) k) ∈ news) (h5 : vs.length ≤ sizeLine) (h6 : (∀ (g : Heap) (i : Nat),i < vs.length → Elt prog w A h₀ L m env elt x scope cl { s₁ with heap := g } (fun y=>vs[i]? = some y) news (R i))) (h7 : (∀ (ys : List Value) (D : Addr) (h : Heap) (tk : Nat),ys.length = vs.length → (∀ i,i < vs.length → ∃ y,ys[i]? = some y ∧ R i y) → Fr h₀ L h m → News h₀ L h ((D,lst ys) :: news) → Off1 D news → Q (.ref D) { s₁ with heap := h,toks := tk })) : SrcLst prog w A h₀ L m env elt x scope cl R Q xv s₁
theorem comp_list {elt iter : Expr} {x : Str} {px : Pos} {scope : Scope} {cl : List (Str × Addr)} {pos : Pos} {R : Nat → Value → Prop} {Q : Value → Shared → Prop} (F₀ : Fr h₀ L s.heap m)
    (hclos : closureFor scope env = pure cl) (hcell : ∀ y ∈ scope.names,y.2 ≠ .cell) (hkind : scope.kind = .function)
    (hnames : ∀ y ∈ scope.names,y.2 = .local → scope.names.lookup y.1 = some .local) (hx : scope.names.lookup x = some .local)
    (h : wpAny (model prog w) A (eval iter env) (SrcLst prog w A h₀ L m env elt x scope cl R Q) E s)
    (hs : ∀ x,foldedSetIterable iter env x = pure x := by intro _;rfl) :
    wpAny (model prog w) A (eval (.ListComp elt [⟨.Name x px,iter,[],0⟩] scope pos) env) Q E s := by
  refine ListComp_U F₀ hclos hcell hkind hnames hx (wpAny_mono h (fun xv s₁ h₁=>?_) fun _ _ e=>e) hs
  obtain ⟨ax,vs,k,news,rfl,hh,F,N,hm,hsz,hel,hq⟩ := h₁
  refine CompSrc.ledger hh F N hm (by simpa using hsz) fun g=>?_
  refine rest_plain (n := vs.toArray.size) (R := R) (P := fun i v=>vs.toArray[i]? = some v) (.inr ⟨_,hm,rfl,_,rfl⟩) (fun i hi=>?_) (fun ys hl hy D h tk F' N' o1=>?_) vs.toArray.size 0 [] (by omega) rfl (fun j hj=>absurd hj (Nat.not_lt_zero _))
  · exact fun v I oI C oC D oD m₂ h tk E' hv=>hel g i (by simpa using hi) v I oI C oC D oD m₂ h tk E' (by simpa using hv)
  · exact hq ys D h tk (by simpa using hl) (fun i hi=>hy i (by simpa using hi)) F' N' o1
inductive SrcLstA (prog : Program) (w : World) (A : Around) (h₀ : Heap) (L : Addr) (m : Str → Option Value) (env : Env) (elt : Expr) (x : Str) (scope : Scope) (cl : List (Str × Addr)) (R : Nat → Value → Prop) (y : Str) (Q : Flow → Shared → Prop) (xv : Value) (s₁ : Shared) : Prop
  | mk' (ax vs k news : _) (h0 : xv = .ref ax) (h1 : A.handled = none) (h2 : Fr h₀ L s₁.heap m) (h3 : News h₀ L s₁.heap news) (h4 : (ax,listOf (List.toArray vs) k) ∈ news) (h5 : vs.length ≤ sizeLine) (h6 : (∀ (g : Heap) (i : Nat),i < vs.length → Elt prog w A h₀ L m env elt x scope cl { s₁ with heap := g } (fun y=>vs[i]? = some y) news (R i))) (h7 : (∀ (ys : List Value) (D : Addr) (h : Heap) (tk : Nat),ys.length = vs.length → (∀ i,i < vs.length → ∃ y,ys[i]? = some y ∧ R i y) → Fr h₀ L h (fun z=>if z = y then some (.ref D) else m z) → News h₀ L h ((D,lst ys) :: news) → Off1 D news → Q .next { s₁ with heap := h,toks := tk })) : SrcLstA prog w A h₀ L m env elt x scope cl R y Q xv s₁
theorem comp_listA {elt iter : Expr} {x y : Str} {px py : Pos} {scope : Scope} {cl : List (Str × Addr)} {pos spos : Pos} {R : Nat → Value → Prop} {Q : Flow → Shared → Prop} (F₀ : Fr h₀ L s.heap m) (hLe : env.locals = L)
    (hsw : swapsWith (.ListComp elt [⟨.Name x px,iter,[],0⟩] scope pos) (some (.Name y py)) spos.line env = pure true)
    (hclos : closureFor scope env = pure cl) (hcell : ∀ y ∈ scope.names,y.2 ≠ .cell) (hkind : scope.kind = .function)
    (hnames : ∀ y ∈ scope.names,y.2 = .local → scope.names.lookup y.1 = some .local) (hx : scope.names.lookup x = some .local)
    (hy : env.kindOf y = some .local) (hp : (env.scope.kind == .class || (env.scope.kind == .module && env.locals != env.globals)) = false)
    (h : wpAny (model prog w) A (eval iter env) (SrcLstA prog w A h₀ L m env elt x scope cl R y Q) E s)
    (hs : ∀ x,foldedSetIterable iter env x = pure x := by intro _;rfl) :
    wpAny (model prog w) A (exec (.Assign [.Name y py] (.ListComp elt [⟨.Name x px,iter,[],0⟩] scope pos) spos) env) Q E s := by
  refine Assign_ListComp_U F₀ hLe hsw hclos hcell hkind hnames hx hy hp (wpAny_mono h (fun xv s₁ h₁=>?_) fun _ _ e=>e) hs
  obtain ⟨ax,vs,k,news,rfl,hh,F,N,hm,hsz,hel,hq⟩ := h₁
  refine CompSrc.ledger hh F N hm (by simpa using hsz) fun g=>?_
  refine rest_plain (n := vs.toArray.size) (R := R) (P := fun i v=>vs.toArray[i]? = some v) (.inr ⟨_,hm,rfl,_,rfl⟩) (fun i hi=>?_) (fun ys hl hy D h tk F' N' o1=>?_) vs.toArray.size 0 [] (by omega) rfl (fun j hj=>absurd hj (Nat.not_lt_zero _))
  · exact fun v I oI C oC D oD m₂ h tk E' hv=>hel g i (by simpa using hi) v I oI C oC D oD m₂ h tk E' (by simpa using hv)
  · exact hq ys D h tk (by simpa using hl) (fun i hi=>hy i (by simpa using hi)) F' N' o1
inductive SrcTxt (prog : Program) (w : World) (A : Around) (h₀ : Heap) (L : Addr) (m : Str → Option Value) (env : Env) (elt : Expr) (x : Str) (scope : Scope) (cl : List (Str × Addr)) (R : Nat → Value → Prop) (Q : Value → Shared → Prop) (xv : Value) (s₁ : Shared) : Prop
  | mk' (tx t news : _) (h0 : xv = .str tx t) (h1 : A.handled = none) (h2 : Fr h₀ L s₁.heap m) (h3 : News h₀ L s₁.heap news) (h4 : tx.cps.all (· < 128) = true) (h5 : tx.cps.size ≤ sizeLine) (h6 : (∀ (g : Heap) (i : Nat),i < tx.cps.size → Elt prog w A h₀ L m env elt x scope cl { s₁ with heap := g } (SignAt tx i) news (R i))) (h7 : (∀ (ys : List Value) (D : Addr) (h : Heap) (tk : Nat),ys.length = tx.cps.size → (∀ i,i < tx.cps.size → ∃ y,ys[i]? = some y ∧ R i y) → Fr h₀ L h m → News h₀ L h ((D,lst ys) :: news) → Off1 D news → Q (.ref D) { s₁ with heap := h,toks := tk })) : SrcTxt prog w A h₀ L m env elt x scope cl R Q xv s₁
theorem comp_text {elt iter : Expr} {x : Str} {px : Pos} {scope : Scope} {cl : List (Str × Addr)} {pos : Pos} {R : Nat → Value → Prop} {Q : Value → Shared → Prop} (F₀ : Fr h₀ L s.heap m)
    (hclos : closureFor scope env = pure cl) (hcell : ∀ y ∈ scope.names,y.2 ≠ .cell) (hkind : scope.kind = .function)
    (hnames : ∀ y ∈ scope.names,y.2 = .local → scope.names.lookup y.1 = some .local) (hx : scope.names.lookup x = some .local)
    (h : wpAny (model prog w) A (eval iter env) (SrcTxt prog w A h₀ L m env elt x scope cl R Q) E s)
    (hs : ∀ x,foldedSetIterable iter env x = pure x := by intro _;rfl) :
    wpAny (model prog w) A (eval (.ListComp elt [⟨.Name x px,iter,[],0⟩] scope pos) env) Q E s := by
  rw [eval_ListComp]
  refine wpAny_comprehension_free (use := none) rfl hs hclos hkind hnames (wpAny_mono h (fun xv s₁ h₁=>?_) fun _ _ e=>e)
  obtain ⟨tx,t,news,rfl,hh,F,N,ha,hsz,hel,hq⟩ := h₁
  refine wpAny_pyIter_ascii ha ?_
  refine block_U (Walks.strAscii hh s₁.heap.objs.size tx t) hsz (fun i h st=>by obtain ⟨o,e,_⟩ := st;exact ⟨o,e⟩) (S := fun _=>True) (fun i h h' o nw st e e' _ _ _=>?_) hcell hkind hx ⟨_,Heap.get?_push_size _ rfl,rfl,rfl⟩ (fun b hb=>?_)
    (F.keeps fun _ _ e=>Heap.get?_push_of_some _ e) (N.grown fun _ _ e=>Heap.get?_push_of_some _ e) (Nat.ne_of_lt F.ns.lt) (next_is_new F) (fun p hp=>Nat.ne_of_lt (Heap.lt_size (N p hp).1)) trivial
    (Fin := fun ys nw=>∀ D h tk,Fr h₀ L h m → News h₀ L h ((D,lst ys) :: nw) → Off1 D nw → Q (.ref D) { s₁ with heap := h,toks := tk })
    (rest_plain (n := tx.cps.size) trivial (hel _) (fun ys hl hy D h tk F' N' o1=>hq ys D h tk hl hy F' N' o1) _ 0 [] (by omega) rfl (fun j hj=>absurd hj (Nat.not_lt_zero _))) ?_
  · obtain ⟨o',q,r⟩ := st;rw [e] at q;cases q;exact ⟨o,e',r⟩
  · rw [List.mem_singleton.mp hb]
    show s₁.heap.objs.size < (s₁.heap.push _).objs.size
    rw [Heap.size_push];exact Nat.lt_succ_self _
  · intro D C h tk m' ys news' F' N' o1 hn' hC₀ hD₀ hCL hDL hCD offC fin
    refine ⟨m',hn',fun h'' hs''=>fin D h'' tk (F'.change hs'' hCL hC₀) (fun p hp=>?_) o1⟩
    refine ⟨hs''.extBut _ _ ?_ (N' p hp).1,(N' p hp).2⟩
    rcases List.mem_cons.mp hp with rfl | hp
    · exact Ne.symm hCD
    · exact offC p hp
theorem ints_of_get {g : Nat → Int} : ∀ {ys : List Value} {n : Nat},ys.length = n → (∀ i,i < n → ∃ y,ys[i]? = some y ∧ ∃ t,y = Value.int (g i) t) → IntsAre ys ((List.range n).map g) := by
  intro ys
  induction ys generalizing g with
  | nil=>intro n hl _;subst hl;exact .nil
  | cons y ys ih =>
    intro n hl h
    subst hl
    obtain ⟨y',e,t,rfl⟩ := h 0 (by simp)
    simp only [List.getElem?_cons_zero,Option.some.injEq] at e
    subst e
    rw [List.length_cons,List.range_succ_eq_map,List.map_cons,List.map_map]
    refine .cons _ _ (ih (g := g ∘ Nat.succ) rfl fun i hi=>?_)
    obtain ⟨y'',e2,r⟩ := h (i + 1) (by simp;omega)
    exact ⟨y'',by simpa using e2,r⟩
theorem sum_made {D : Addr} {ys : List Value} {news : List (Addr × Obj)} {g : Nat → Int} {n : Nat} {Q : Value → Shared → Prop} (hh : A.handled = none) (F : Fr h₀ L s.heap m) (N : News h₀ L s.heap news) (hm : (D,lst ys) ∈ news) (hl : ys.length = n)
    (hy : ∀ i,i < n → ∃ y,ys[i]? = some y ∧ ∃ t,y = Value.int (g i) t) (h : ∀ h' tk t',Fr h₀ L h' m → News h₀ L h' news → Q (.int ((List.range n).map g).sum t') { s with heap := h',toks := tk }) :
    wpAny (model prog w) A (call (.builtin "sum") [.ref D]) Q E s := sumK hh F N (News.isList N hm) (ints_of_get hl hy) h
end
end
section
open PyProof.Rows.LCg PySem.Calls
theorem strs_of_get {g : Nat → Str} : ∀ {ys : List Value} {n : Nat},ys.length = n → (∀ i,i < n → ∃ y,ys[i]? = some y ∧ ∃ t,y = Value.str (g i) t) → StrsAre ys ((List.range n).map g) := by
  intro ys
  induction ys generalizing g with
  | nil=>intro n hl _;subst hl;exact .nil
  | cons y ys ih =>
    intro n hl h
    subst hl
    obtain ⟨y',e,t,rfl⟩ := h 0 (by simp)
    simp only [List.getElem?_cons_zero,Option.some.injEq] at e
    subst e
    rw [List.length_cons,List.range_succ_eq_map,List.map_cons,List.map_map]
    refine .cons _ _ (ih (g := g ∘ Nat.succ) rfl fun i hi=>?_)
    obtain ⟨y'',e2,r⟩ := h (i + 1) (by simp;omega)
    exact ⟨y'',by simpa using e2,r⟩
noncomputable def hexd (d : Int) : Str := Txt.item (Str.ofString "0123456789abcdef") d
theorem hexd_len (d : Int) : (hexd d).length = 1 := rfl
noncomputable def hexF (v : Int) : Str := Txt.join (Str.ofString "") ((List.range 8).map fun i=>hexd (v / 16 ^ (7 - i) % 16))
theorem hex_weight (g : Nat → Int) (n : Nat) : (((List.range n).map fun i=>hexd (g i)).map (·.length)).sum = n := by
  rw [List.map_map]
  have e : (fun x=>x.length) ∘ (fun i=>hexd (g i)) = fun _=>1 := funext fun i=>hexd_len _
  rw [e]
  induction n with
  | zero=>rfl
  | succ n ih=>rw [List.range_succ,List.map_append,List.sum_append,ih];rfl
theorem join_hex {prog : Program} {w : World} {A : Around} {E : Value → Shared → Prop} {s : Shared} {t : Tok} {Q : Value → Shared → Prop} {h₀ : Heap} {L D : Addr} {news : List (Addr × Obj)} {ys : List Value} {g : Nat → Int} {n : Nat}
    (N : News h₀ L s.heap news) (hm : (D,lst ys) ∈ news) (hl : ys.length = n) (hn : n ≤ 100) (hy : ∀ i,i < n → ∃ y,ys[i]? = some y ∧ ∃ t,y = Value.str (hexd (g i)) t)
    (h : ∀ t' k,Q (.str (Txt.join (Str.ofString "") ((List.range n).map fun i=>hexd (g i))) t') { s with toks := k }) : wpAny (model prog w) A (call (.builtin "str.join") [.str (Str.ofString "") t,.ref D]) Q E s :=
  join_listW (News.isList N hm) (by rw [List.toList_toArray];exact strs_of_get hl hy) (by decide) (by rw [hex_weight,List.length_map,List.length_range];omega) h
theorem pow16_small (k : Nat) (h : k ≤ 7) : ((16 : Int) ^ k).natAbs < 1073741824 := by
  exact (by decide : ∀ k : Nat,k < 8 → ((16 : Int) ^ k).natAbs < 1073741824) k (Nat.lt_succ_of_le h)
theorem item_and15 {prog : Program} {w : World} {A : Around} {E : Value → Shared → Prop} {s : Shared} {value slice : Expr} {x : Str} {a : Int} {t u : Tok} {Q : Value → Shared → Prop} (hx : (x.length : Int) = 16)
    (h : Q (.str (Txt.item x (Builtin.bitAnd a 15)) s.toks) { s with toks := s.toks + 1 })
    (hs : subscripted slice false (.str x t) (.int (Builtin.bitAnd a 15) u) = operate [.str x t,.int (Builtin.bitAnd a 15) u] (getItem (.str x t) (.int (Builtin.bitAnd a 15) u)) := by with_unfolding_all rfl)
    (ht : ∀ r,letTemporaryGo value (.str x t) r = pure () := by intro _;with_unfolding_all rfl) :
    wpAny (model prog w) A (subscriptTail value slice (.str x t) (.int (Builtin.bitAnd a 15) u)) Q E s := by
  have r := bitAnd_range a (y := 15) (by decide)
  exact item_str (fitsSsize_of (N := 9223372036854775808) (by omega) (by omega) (Int.le_refl _)) (by omega) (by omega) (fun _=>h) hs ht
theorem hex_at1 (v : Int) (i : Nat) (hi : i < 8) : (v.fdiv (16 ^ (7 + (i : Int) * -1).toNat)).fmod 16 = v / 16 ^ (7 - i) % 16 := by
  rw [show (7 + (i : Int) * -1).toNat = 7 - i by omega,Int.fdiv_eq_ediv_of_nonneg _ (Int.le_of_lt (Int.pow_pos (by decide))),Int.fmod_eq_emod_of_nonneg _ (by decide)]
theorem hex_at2 (v : Int) (i : Nat) (hi : i < 8) : Builtin.bitAnd (v.fdiv (2 ^ (4 * (7 + (i : Int) * -1)).toNat)) 15 = v / 16 ^ (7 - i) % 16 := by
  rw [show (4 * (7 + (i : Int) * -1)).toNat = 4 * (7 - i) by omega,fd,bitAnd_m4,Int.pow_mul];rfl
theorem hex_at2' (v : Int) (i : Nat) (hi : i < 8) : Builtin.bitAnd (v.fdiv (2 ^ (4 * (8 - 1 + (i : Int) * -1)).toNat)) 15 = v / 16 ^ (7 - i) % 16 := hex_at2 v i hi
end
section
theorem join_str (x : Str) (ys : List Str) : Txt.join x ys = Str.join x ys := eq_of_beq (join_plain_closes x ys)
theorem ext_str {x y : Str} (h : x.cps.toList = y.cps.toList) : x = y := by
  cases x;cases y;congr 1;exact Array.toList_inj.mp h
noncomputable def hexC (d : Int) : Nat := (hexd d).cps.getD 0 0
theorem hexd_eq (d : Int) : hexd d = ⟨#[hexC d]⟩ := rfl
theorem app_cps (x y : Str) : (x ++ y).cps.toList = x.cps.toList ++ y.cps.toList := by rw [PySem.Str.cps_append,Array.toList_append]
theorem join_cps : ∀ (ys : List Str),(Str.join (Str.ofString "") ys).cps.toList = (ys.map fun y=>y.cps.toList).flatten
  | []=>rfl
  | [x]=>by simp [Str.join]
  | x :: y :: ys=>by
    have e : Str.join (Str.ofString "") (x :: y :: ys) = x ++ Str.ofString "" ++ Str.join (Str.ofString "") (y :: ys) := rfl
    rw [e,app_cps,app_cps,join_cps (y :: ys)]
    have : (Str.ofString "").cps.toList = [] := rfl
    rw [this,List.append_nil];rfl
theorem hexF_eq (v : Int) : hexF v = ⟨#[hexC (v / 16 ^ 7 % 16),hexC (v / 16 ^ 6 % 16),hexC (v / 16 ^ 5 % 16),hexC (v / 16 ^ 4 % 16),hexC (v / 16 ^ 3 % 16),hexC (v / 16 ^ 2 % 16),hexC (v / 16 ^ 1 % 16),hexC (v / 16 ^ 0 % 16)]⟩ := by
  apply ext_str
  unfold hexF
  rw [join_str,join_cps]
  simp only [List.range_succ,List.range_zero,List.nil_append,List.cons_append,List.map_cons,List.map_nil,hexd_eq,List.flatten_cons,List.flatten_nil,List.append_nil]
theorem hexC_mem (d : Nat) (hd : d < 16) : hexC d ∈ (Str.ofString "0123456789abcdef").cps.toList := by
  have : ∀ d : Fin 16,hexC ((d : Nat) : Int) ∈ (Str.ofString "0123456789abcdef").cps.toList := by decide +kernel
  exact this ⟨d,hd⟩
theorem hex_find (d : Nat) (hd : d < 16) : Txt.find (Str.ofString "0123456789abcdef") (hexd d) = (d : Int) := by
  have : ∀ d : Fin 16,Txt.find (Str.ofString "0123456789abcdef") (hexd ((d : Nat) : Int)) = ((d : Nat) : Int) := by decide +kernel
  exact this ⟨d,hd⟩
theorem hexF_item (v : Int) (i : Nat) (hi : i < 8) : Txt.item (hexF v) (i : Int) = hexd (v / 16 ^ (7 - i) % 16) := by
  rw [hexF_eq]
  rcases i with _ | _ | _ | _ | _ | _ | _ | _ | i
  iterate 8 rfl
  exact absurd hi (by omega)
end
section
open PySem.SeqAt PyProof.V PySem.Spec
open PySem.Calls in
theorem list_ne_lengths (l b : Addr) (items items2 : Array Value) (n n2 : Nat) (dd dd2 : Option Addr) (sl sl2 : Array (Option Value)) (hc0 : (items.size != items2.size) = true) :
    Meets (Builtin.«list.__ne__» ⟨[.ref l,.ref b],[]⟩)
      (fun _ R s=>s.heap.get? l = some { cls := .type "list",dict := dd,data := .seq items n,slots := sl } ∧ s.heap.get? b = some { cls := .type "list",dict := dd2,data := .seq items2 n2,slots := sl2 } ∧
        R (.ok (.ret (.bool true))) s) :=
  .of_wp fun prog w A R s h=>by
    obtain ⟨hp,g,d,tk,os⟩ := s;obtain ⟨hl,hb,h⟩ := h
    have f3 := AutoSeq1.sub_list_list
    wp_walk using AutoSeq1.wpAny_loadPart' hl,AutoSeq1.wpAny_loadPart' hb
    exact ⟨_,rfl,h⟩
section
open PySem.Calls
variable {prog : Program} {w : World} {A : Around} {E : Value → Shared → Prop} {s : Shared}
theorem eq_nil {a b : Addr} {vs : List Value} {Q : Value → Shared → Prop} (hl : s.heap.IsList a vs.toArray) (hl' : s.heap.IsList b [].toArray) (hu : A.units + 64 < cLine)
    (h : Q (.bool (decide (vs = []))) s) : wpAny (model prog w) A (compareOp .Eq (.ref a) (.ref b)) Q E s := by
  cases vs with
  | nil=>exact ke_eq_ints hl hl' .nil .nil hu h
  | cons v vs=>exact SeqAt.eq_list_lengthsAt hl hl' (by simp) (by omega) (by simpa using h)
theorem ne_nil {a b : Addr} {vs : List Value} {Q : Value → Shared → Prop} (hl : s.heap.IsList a vs.toArray) (hl' : s.heap.IsList b [].toArray) (hu : A.units + 64 < cLine)
    (h : Q (.bool (!decide (vs = []))) s) : wpAny (model prog w) A (compareOp .NotEq (.ref a) (.ref b)) Q E s := by
  cases vs with
  | nil=>exact ke_ne_ints hl hl' .nil .nil hu h
  | cons v vs =>
    obtain ⟨⟨cls,dd,data,sl⟩,ho,hc,n,hd⟩ := id hl
    obtain ⟨⟨cls2,dd2,data2,sl2⟩,ho2,hc2,n2,hd2⟩ := id hl'
    simp only at hc hd hc2 hd2
    subst hc hd hc2 hd2
    exact richCompare_meets_room (op := .NotEq) ⟨_,ho,rfl⟩ ⟨_,ho2,rfl⟩ PySem.F.slot_list_ne PySem.F.entry_list_ne (PySem.F.args_list_ne_2 _ _) (list_ne_lengths a b _ _ n n2 dd dd2 sl sl2 (by simp))
      ⟨ho,ho2,show Value.bool true ≠ Value.notImplemented ∧ Q (.bool true) s from ⟨(fun x=>nomatch x),by simpa using h⟩⟩ (by omega)
theorem eq_nilN {h₀ : Heap} {L a b : Addr} {news : List (Addr × Obj)} {vs : List Value} {n n' : Nat} {Q : Value → Shared → Prop} (N : News h₀ L s.heap news) (hm : (a,listOf vs.toArray n) ∈ news) (hm' : (b,listOf #[] n') ∈ news) (hu : A.units + 64 < cLine)
    (h : Q (.bool (decide (vs = []))) s) : wpAny (model prog w) A (compareOp .Eq (.ref a) (.ref b)) Q E s := eq_nil (News.isList N hm) (News.isList N hm') hu h
theorem ne_nilN {h₀ : Heap} {L a b : Addr} {news : List (Addr × Obj)} {vs : List Value} {n n' : Nat} {Q : Value → Shared → Prop} (N : News h₀ L s.heap news) (hm : (a,listOf vs.toArray n) ∈ news) (hm' : (b,listOf #[] n') ∈ news) (hu : A.units + 64 < cLine)
    (h : Q (.bool (!decide (vs = []))) s) : wpAny (model prog w) A (compareOp .NotEq (.ref a) (.ref b)) Q E s := ne_nil (News.isList N hm) (News.isList N hm') hu h
theorem ne_nil0 {h₀ : Heap} {L a b : Addr} {news : List (Addr × Obj)} {vs : List Value} {n n' : Nat} {Q : Value → Shared → Prop} (N : News h₀ L s.heap news) (hm : (a,listOf vs.toArray n) ∈ news) (hm' : (b,listOf #[] n') ∈ news) (hu : A.units + 64 < cLine) (hv : vs = [])
    (h : Q (.bool false) s) : wpAny (model prog w) A (compareOp .NotEq (.ref a) (.ref b)) Q E s := ne_nilN N hm hm' hu (by rw [hv];exact h)
end
end
section
open PyProof.Rows.LCg PySem.Calls
theorem hex_dig (v : Int) (i : Nat) (h : 0 ≤ v) : ∃ d : Nat,d < 16 ∧ v / 16 ^ (7 - i) % 16 = (d : Int) := by
  have h0 : 0 ≤ v / 16 ^ (7 - i) % 16 := Int.emod_nonneg _ (by decide)
  have h1 : v / 16 ^ (7 - i) % 16 < 16 := Int.emod_lt_of_pos _ (by decide)
  exact ⟨(v / 16 ^ (7 - i) % 16).toNat,by omega,by omega⟩
theorem find_hex {prog : Program} {w : World} {A : Around} {E : Value → Shared → Prop} {s : Shared} {x : Str} {v k : Int} {i : Nat} {t u : Tok} {Q : Value → Shared → Prop} (hx : x = hexF v) (hk : k = (i : Int)) (hi : i < 8) (h0 : 0 ≤ v)
    (h : ∀ t',Q (.int (v / 16 ^ (7 - i) % 16) t') { s with toks := s.toks + 1 }) : wpAny (model prog w) A (call (.builtin "str.find") [.str (Str.ofString "0123456789abcdef") t,.str (Txt.item x k) u]) Q E s := by
  subst hk hx
  rw [hexF_item v i hi]
  obtain ⟨d,hd,e⟩ := hex_dig v i h0
  refine SC.find ?_
  rw [e,hex_find d hd]
  rw [e] at h
  exact h _
theorem item_in {prog : Program} {w : World} {A : Around} {E : Value → Shared → Prop} {s : Shared} {value slice : Expr} {x : Str} {k : Int} {t u : Tok} {Q : Value → Shared → Prop} (h0 : 0 ≤ k) (h1 : k < x.length) (h2 : x.length ≤ 1000000)
    (h : Q (.str (Txt.item x k) s.toks) { s with toks := s.toks + 1 })
    (hs : subscripted slice false (.str x t) (.int k u) = operate [.str x t,.int k u] (getItem (.str x t) (.int k u)) := by with_unfolding_all rfl)
    (ht : ∀ r,letTemporaryGo value (.str x t) r = pure () := by intro _;with_unfolding_all rfl) :
    wpAny (model prog w) A (subscriptTail value slice (.str x t) (.int k u)) Q E s :=
  item_str (fitsSsize_of (N := 9223372036854775808) (by omega) (by omega) (Int.le_refl _)) (by omega) (by omega) (fun _=>h) hs ht
theorem pw (v : Int) (n : Nat) : v / 16 ^ n * 16 ^ n = v / 16 ^ n % 16 * 16 ^ n + v / 16 ^ (n + 1) * 16 ^ (n + 1) := by
  have e : v / 16 ^ (n + 1) = v / 16 ^ n / 16 := by rw [Int.pow_succ,Int.ediv_ediv_of_nonneg (Int.le_of_lt (Int.pow_pos (by decide)))]
  have e2 := Int.emod_add_mul_ediv (v / 16 ^ n) 16
  rw [e,Int.pow_succ]
  generalize v / 16 ^ n = q at *
  generalize (16 : Int) ^ n = p at *
  conv=>lhs;rw [← e2,Int.add_mul]
  congr 1
  ac_rfl
theorem hex_sum (v : Int) (h : 0 ≤ v ∧ v < 2 ^ 32) : ((List.range 8).map fun i=>v / 16 ^ (7 - i) % 16 * 16 ^ (7 - i)).sum = v := by
  simp only [List.range_succ,List.range_zero,List.nil_append,List.cons_append,List.map_cons,List.map_nil,List.sum_cons,List.sum_nil,show (7 - 0) = 7 from rfl,show (7 - 1) = 6 from rfl,show (7 - 2) = 5 from rfl,show (7 - 3) = 4 from rfl,show (7 - 4) = 3 from rfl,show (7 - 5) = 2 from rfl,show (7 - 6) = 1 from rfl,show (7 - 7) = 0 from rfl]
  have z : v / 16 ^ (7 + 1) * 16 ^ (7 + 1) = 0 := by rw [Int.ediv_eq_zero_of_lt h.1 (show v < 16 ^ (7 + 1) from h.2),Int.zero_mul]
  have a : v = v / 16 ^ 0 * 16 ^ 0 := by rw [Int.pow_zero,Int.ediv_one,Int.mul_one]
  conv=>rhs;rw [a,pw v 0,pw v (0 + 1),pw v (0 + 1 + 1),pw v (0 + 1 + 1 + 1),pw v (0 + 1 + 1 + 1 + 1),pw v (0 + 1 + 1 + 1 + 1 + 1),pw v (0 + 1 + 1 + 1 + 1 + 1 + 1),pw v (0 + 1 + 1 + 1 + 1 + 1 + 1 + 1),z]
  ac_rfl
theorem hex_signs (v : Int) (h : 0 ≤ v) : ∀ c ∈ (hexF v).cps.toList,c ∈ (Str.ofString "0123456789abcdef").cps.toList := by
  intro c hc
  rw [hexF_eq] at hc
  have g : ∀ i,hexC (v / 16 ^ (7 - i) % 16) ∈ (Str.ofString "0123456789abcdef").cps.toList := fun i=>by
    obtain ⟨d,hd,e⟩ := hex_dig v i h
    rw [e];exact hexC_mem d hd
  simp only [List.mem_cons,List.not_mem_nil,or_false] at hc
  rcases hc with rfl | rfl | rfl | rfl | rfl | rfl | rfl | rfl
  · exact g 0
  · exact g 1
  · exact g 2
  · exact g 3
  · exact g 4
  · exact g 5
  · exact g 6
  · exact g 7
theorem hex_pow (i : Nat) (hi : i < 8) : (16 : Int) ^ (7 - (0 + (i : Int) * 1)).toNat = 16 ^ (7 - i) := by
  rw [show (7 - (0 + (i : Int) * 1)).toNat = 7 - i by omega]
theorem hex_nil {v : Int} {x : Str} {ys : List Value} (h0 : 0 ≤ v) (e : x = hexF v) (hC : CarriedAll ys (List.map PyData.str (List.filter (fun a=>!!(Builtin.Str.occurrences (Str.ofString "0123456789abcdef") a 0 (Str.ofString "0123456789abcdef").length 1).isEmpty) (signs x)))) : ys = [] := by
  subst e
  have h : List.filter (fun a=>!!(Builtin.Str.occurrences (Str.ofString "0123456789abcdef") a 0 (Str.ofString "0123456789abcdef").length 1).isEmpty) (signs (hexF v)) = [] := by
    rw [List.filter_eq_nil_iff]
    intro a ha
    obtain ⟨c,hc,rfl⟩ := List.mem_map.mp ha
    rw [PyProof.Rows.empty_one]
    simp only [Bool.not_not,Bool.not_eq_true',decide_eq_false_iff_not,Classical.not_not]
    exact hex_signs v h0 c hc
  rw [h] at hC
  cases hC;rfl
end
section
theorem wd_fdiv (n : Nat) : ((n : Int)).fdiv 4 * 4 = ((n / 4 * 4 : Nat) : Int) := by rw [Int.fdiv_eq_ediv_of_nonneg _ (by decide)];omega
theorem wd_size (n : Nat) : Builtin.Range.rangeSize 0 ((n : Int).fdiv 4 * 4) 4 = ((n / 4 : Nat) : Int) := by
  rw [wd_fdiv]
  unfold Builtin.Range.rangeSize
  rw [if_pos (by decide)]
  split <;> omega
theorem wd_small (n : Nat) (h : n ≤ 100) : Builtin.Range.small 0 ((n : Int).fdiv 4 * 4) 4 = true := by
  rw [wd_fdiv]
  have : ∀ k : Fin 26,Builtin.Range.small 0 (((k : Nat) * 4 : Nat) : Int) 4 = true := by decide +kernel
  exact this ⟨n / 4,by omega⟩
noncomputable def wordsF (ks : List Int) : List Int := (List.range (ks.length / 4)).map fun i=>KFB.value ((ks.drop (4 * i)).take 4).reverse
theorem off1_ne {D : Addr} : ∀ {l : List (Addr × Obj)},PyProof.Rows.LCg.Off1 D l → ∀ p ∈ l,p.1 ≠ D
  | [],_,p,hp=>by cases hp
  | q :: l,h,p,hp=>by
    rcases List.mem_cons.mp hp with rfl | hp
    · exact h.1
    · exact off1_ne h.2 p hp
theorem wd_cut {ks js : List Int} {i : Nat} (hi : i < ks.length / 4) (h : js = (ks.drop (clipAt ks.length (0 + (i : Int) * 4))).take (clipAt ks.length (0 + (i : Int) * 4 + 4) - clipAt ks.length (0 + (i : Int) * 4))) : js = (ks.drop (4 * i)).take 4 := by
  have e1 : clipAt ks.length (0 + (i : Int) * 4) = 4 * i := by unfold clipAt;omega
  have e2 : clipAt ks.length (0 + (i : Int) * 4 + 4) = 4 * i + 4 := by unfold clipAt;omega
  rw [h,e1,e2];congr 1;omega
end
section
theorem unr_head {h₀ : Heap} {L : Addr} {s₁ : Shared} {rest : (Str → Option Value) → List (Addr × Obj) → Prop} {i : Addr} {o : Obj} {all : List (Addr × Obj)} {h' : Heap} {tk : Nat} {m' : Str → Option Value} (F : Fr h₀ L h' m') (N : News h₀ L h' ((i,o) :: all)) (off : AllLt i all) (r : rest m' all) :
    UnrEndW h₀ L s₁ [(i,o)] rest { s₁ with heap := h',toks := tk } :=
  ⟨h',tk,m',all,rfl,F,N,fun p hp q hq=>by rcases List.mem_singleton.mp hq with rfl;exact Nat.ne_of_lt (kst_ltOf off p hp),r⟩
end
section
noncomputable def immI (w : Int) : Int := sgn (w / 2 ^ 20) 12
noncomputable def immH (w : Int) : Int := w / 2 ^ 20 % 32
noncomputable def immS (w : Int) : Int := sgn (w / 2 ^ 25 * 2 ^ 5 + w / 2 ^ 7 % 32) 12
noncomputable def immB (w : Int) : Int := sgn (w / 2 ^ 31 * 2 ^ 12 + w / 2 ^ 7 % 2 * 2 ^ 11 + w / 2 ^ 25 % 64 * 2 ^ 5 + w / 2 ^ 8 % 16 * 2 ^ 1) 13
noncomputable def immU (w : Int) : Int := w / 2 ^ 12
noncomputable def immJ (w : Int) : Int := sgn (w / 2 ^ 31 * 2 ^ 20 + w / 2 ^ 12 % 256 * 2 ^ 12 + w / 2 ^ 20 % 2 * 2 ^ 11 + w / 2 ^ 21 % 1024 * 2 ^ 1) 21
noncomputable def immF (w : Int) : Int := w / 2 ^ 20 % 256
theorem imm_endI (v : Int) : sgn (v.fdiv (2 ^ Int.toNat 20)) (Int.toNat 12) = immI v := by rw [fd];rfl
theorem imm_endH (v : Int) : Builtin.bitAnd (v.fdiv (2 ^ Int.toNat 20)) 31 = immH v := by rw [fd,bitAnd_m5];rfl
theorem imm_endF (v : Int) : Builtin.bitAnd (v.fdiv (2 ^ Int.toNat 20)) 255 = immF v := by rw [fd,bitAnd_m8];rfl
theorem imm_endU (v : Int) : v.fdiv (2 ^ Int.toNat 12) = immU v := by rw [fd];rfl
theorem imm_endS (v : Int) (h : 0 ≤ v ∧ v < 2 ^ 32) : sgn (Builtin.bitOr (v.fdiv (2 ^ Int.toNat 25) * 2 ^ Int.toNat 5) (Builtin.bitAnd (v.fdiv (2 ^ Int.toNat 7)) 31)) (Int.toNat 12) = immS v := by
  rw [fd,fd,bitAnd_m5,show Int.toNat 5 = 5 from rfl,bor_add _ _ 5 (Int.ediv_nonneg h.1 (Int.le_of_lt (Int.pow_pos (by decide)))) (by constructor <;> omega)];rfl
theorem imm_endB (v : Int) (h : 0 ≤ v ∧ v < 2 ^ 32) : sgn (Builtin.bitOr (Builtin.bitOr (Builtin.bitOr (v.fdiv (2 ^ Int.toNat 31) * 2 ^ Int.toNat 12) (Builtin.bitAnd (v.fdiv (2 ^ Int.toNat 7)) 1 * 2 ^ Int.toNat 11)) (Builtin.bitAnd (v.fdiv (2 ^ Int.toNat 25)) 63 * 2 ^ Int.toNat 5)) (Builtin.bitAnd (v.fdiv (2 ^ Int.toNat 8)) 15 * 2 ^ Int.toNat 1)) (Int.toNat 13) = immB v := by
  simp only [fd,bitAnd_m1,bitAnd_m6,bitAnd_m4,show Int.toNat 31 = 31 from rfl,show Int.toNat 12 = 12 from rfl,show Int.toNat 7 = 7 from rfl,show Int.toNat 11 = 11 from rfl,show Int.toNat 25 = 25 from rfl,show Int.toNat 5 = 5 from rfl,show Int.toNat 8 = 8 from rfl,show Int.toNat 1 = 1 from rfl,show Int.toNat 13 = 13 from rfl]
  have e1 := bor_add (v / 2 ^ 31) (v / 2 ^ 7 % 2 * 2 ^ 11) 12 (by omega) (by omega)
  have e2 := bor_add (v / 2 ^ 31 * 2 + v / 2 ^ 7 % 2) (v / 2 ^ 25 % 64 * 2 ^ 5) 11 (by omega) (by omega)
  have e3 := bor_add ((v / 2 ^ 31 * 2 + v / 2 ^ 7 % 2) * 64 + v / 2 ^ 25 % 64) (v / 2 ^ 8 % 16 * 2 ^ 1) 5 (by omega) (by omega)
  rw [e1,show v / 2 ^ 31 * 2 ^ 12 + v / 2 ^ 7 % 2 * 2 ^ 11 = (v / 2 ^ 31 * 2 + v / 2 ^ 7 % 2) * 2 ^ 11 by omega,e2,
    show (v / 2 ^ 31 * 2 + v / 2 ^ 7 % 2) * 2 ^ 11 + v / 2 ^ 25 % 64 * 2 ^ 5 = ((v / 2 ^ 31 * 2 + v / 2 ^ 7 % 2) * 64 + v / 2 ^ 25 % 64) * 2 ^ 5 by omega,e3]
  unfold immB
  congr 1
  omega
theorem imm_endJ (v : Int) (h : 0 ≤ v ∧ v < 2 ^ 32) : sgn (Builtin.bitOr (Builtin.bitOr (Builtin.bitOr (v.fdiv (2 ^ Int.toNat 31) * 2 ^ Int.toNat 20) (Builtin.bitAnd (v.fdiv (2 ^ Int.toNat 12)) 255 * 2 ^ Int.toNat 12)) (Builtin.bitAnd (v.fdiv (2 ^ Int.toNat 20)) 1 * 2 ^ Int.toNat 11)) (Builtin.bitAnd (v.fdiv (2 ^ Int.toNat 21)) 1023 * 2 ^ Int.toNat 1)) (Int.toNat 21) = immJ v := by
  simp only [fd,bitAnd_m1,bitAnd_m8,show (1023 : Int) = 2 ^ 10 - 1 from rfl,kbt_mask,show Int.toNat 31 = 31 from rfl,show Int.toNat 20 = 20 from rfl,show Int.toNat 12 = 12 from rfl,show Int.toNat 11 = 11 from rfl,show Int.toNat 21 = 21 from rfl,show Int.toNat 1 = 1 from rfl]
  have e1 := bor_add (v / 2 ^ 31) (v / 2 ^ 12 % 256 * 2 ^ 12) 20 (by omega) (by omega)
  have e2 := bor_add (v / 2 ^ 31 * 256 + v / 2 ^ 12 % 256) (v / 2 ^ 20 % 2 * 2 ^ 11) 12 (by omega) (by omega)
  have e3 := bor_add ((v / 2 ^ 31 * 256 + v / 2 ^ 12 % 256) * 2 + v / 2 ^ 20 % 2) (v / 2 ^ 21 % 2 ^ 10 * 2 ^ 1) 11 (by omega) (by omega)
  rw [e1,show v / 2 ^ 31 * 2 ^ 20 + v / 2 ^ 12 % 256 * 2 ^ 12 = (v / 2 ^ 31 * 256 + v / 2 ^ 12 % 256) * 2 ^ 12 by omega,e2,
    show (v / 2 ^ 31 * 256 + v / 2 ^ 12 % 256) * 2 ^ 12 + v / 2 ^ 20 % 2 * 2 ^ 11 = ((v / 2 ^ 31 * 256 + v / 2 ^ 12 % 256) * 2 + v / 2 ^ 20 % 2) * 2 ^ 11 by omega,e3]
  unfold immJ
  congr 1
  omega
end
section
open PyProof.V
noncomputable def nbbT : List (Int × Str) := [(55,Str.ofString "lui"),(23,Str.ofString "auipc"),(111,Str.ofString "jal"),(103,Str.ofString "jalr"),(99,Str.ofString "beq"),(4195,Str.ofString "bne"),(16483,Str.ofString "blt"),(20579,Str.ofString "bge"),(24675,Str.ofString "bltu"),(28771,Str.ofString "bgeu"),(3,Str.ofString "lb"),(4099,Str.ofString "lh"),(8195,Str.ofString "lw"),(16387,Str.ofString "lbu"),(20483,Str.ofString "lhu"),(35,Str.ofString "sb"),(4131,Str.ofString "sh"),(8227,Str.ofString "sw"),(19,Str.ofString "addi"),(8211,Str.ofString "slti"),(12307,Str.ofString "sltiu"),(16403,Str.ofString "xori"),(24595,Str.ofString "ori"),(28691,Str.ofString "andi"),(4115,Str.ofString "slli"),(20499,Str.ofString "srli"),(1073762323,Str.ofString "srai"),(51,Str.ofString "add"),(1073741875,Str.ofString "sub"),(4147,Str.ofString "sll"),(8243,Str.ofString "slt"),(12339,Str.ofString "sltu"),(16435,Str.ofString "xor"),(20531,Str.ofString "srl"),(1073762355,Str.ofString "sra"),(24627,Str.ofString "or"),(28723,Str.ofString "and"),(33554483,Str.ofString "mul"),(33558579,Str.ofString "mulh"),(33562675,Str.ofString "mulhsu"),(33566771,Str.ofString "mulhu"),(33570867,Str.ofString "div"),(33574963,Str.ofString "divu"),(33579059,Str.ofString "rem"),(33583155,Str.ofString "remu"),(15,Str.ofString "fence"),(115,Str.ofString "ecall"),(1048691,Str.ofString "ebreak")]
noncomputable def nbbL : List (Int × PyData) := nbbT.map fun t=>(t.1,PyData.str t.2)
noncomputable abbrev nbbD : List (PyData × PyData) := nbbL.map fun p=>(PyData.int p.1,p.2)
noncomputable def nbb (i : Int) : Str := match PySem.Spec.lookup (.int i) nbbD with
  | some (.str x)=>x
  | _=>Str.ofString ""
theorem nbb_tab {w : World} {h : Heap} (X : (hd.heap_39 w.params).In h) {prog : Program} {w' : World} : IntTab prog w' h 120 nbbD :=
  PyProof.Rows.KTD.keyed_of_look (get := fun a=>(hd.heap_39 w.params).lookup a) (fun a o e=>X a o e) (a := 120) (D := nbbL) (by kernel_rfl) prog w'
theorem lookup_all {P : PyData → Prop} {x y : PyData} {D : List (PyData × PyData)} (hp : ∀ p ∈ D,P p.2) (h : PySem.Spec.lookup x D = some y) : P y := by
  induction D with
  | nil=>simp [PySem.Spec.lookup] at h
  | cons p D ih =>
    have h : (if PySem.Spec.same p.1 x = true then some p.2 else PySem.Spec.lookup x D) = some y := h
    split at h
    · cases h;exact hp _ (.head _)
    · exact ih (fun p m=>hp p (.tail _ m)) h
theorem nbb_all {P : Str → Prop} (h : ∀ t ∈ nbbT,P t.2) : ∀ p ∈ nbbD,∃ x,p.2 = PyData.str x ∧ P x := by
  intro p hp
  obtain ⟨q,hq,rfl⟩ := List.mem_map.mp hp
  obtain ⟨t,ht,rfl⟩ := List.mem_map.mp hq
  exact ⟨t.2,rfl,h t ht⟩
theorem nbb_strs : ∀ p ∈ nbbD,∃ x,p.2 = PyData.str x := fun p hp=>let ⟨x,e,_⟩ := nbb_all (P := fun _=>True) (fun _ _=>trivial) p hp;⟨x,e⟩
theorem flat_nbb {v : Value} {i : Int} (h : Flat v ((PySem.Spec.lookup (.int i) nbbD).getD (.str (Str.ofString "")))) : ∃ t,v = .str (nbb i) t := by
  unfold nbb
  cases e : PySem.Spec.lookup (.int i) nbbD with
  | none=>rw [e] at h;exact PyProof.V.Flat.str_inv h
  | some d =>
    obtain ⟨x,rfl⟩ := lookup_all (P := fun d=>∃ x,d = PyData.str x) nbb_strs e
    rw [e] at h
    exact PyProof.V.Flat.str_inv h
theorem nbb_some {i : Int} (h : ([55,23,111].any fun x=>x == i) = true) : PySem.Spec.lookup (.int i) nbbD = some (.str (nbb i)) := by
  simp only [List.any_cons,List.any_nil,Bool.or_false,Bool.or_eq_true,beq_iff_eq] at h
  rcases h with rfl | rfl | rfl <;> rfl
section
variable {w : World} {A : Around} {E : Value → Shared → Prop} {s : Shared} {h₀ : Heap} {L : Addr} {m : Str → Option Value} {prog : Program}
theorem nbb_get {i : Int} {t u : Tok} {Q : Value → Shared → Prop} (F : Fr h₀ L s.heap m) (X : (hd.heap_39 w.params).In h₀) (h : ∀ t',Q (.str (nbb i) t') { s with toks := s.toks + 1 }) :
    wpAny (model prog w) A (call (.builtin "dict.get") [.ref 120,.int i t,.str (Str.ofString "") u]) Q E s :=
  call_get2_intTab (nbb_tab (X.keeps F.keep)) (PyProof.V.Flat.str _ _) fun v hv=>by
    obtain ⟨t',rfl⟩ := flat_nbb hv
    exact h t'
theorem nbb_item {value slice : PySem.Expr} {i : Int} {t : Tok} {Q : Value → Shared → Prop} (F : Fr h₀ L s.heap m) (X : (hd.heap_39 w.params).In h₀) (hi : ([55,23,111].any fun x=>x == i) = true) (h : ∀ t',Q (.str (nbb i) t') { s with toks := s.toks + 1 })
    (hs : subscripted slice false (.ref 120) (.int i t) = operate [.ref 120,.int i t] (getItem (.ref 120) (.int i t)) := by with_unfolding_all rfl) (hg : ∀ r,letTemporaryGo value (.ref 120) r = pure () := by intro _;with_unfolding_all rfl) :
    wpAny (model prog w) A (subscriptTail value slice (.ref 120) (.int i t)) Q E s :=
  item_intTab (nbb_tab (X.keeps F.keep)) (nbb_some hi) (fun v hv=>by obtain ⟨t',rfl⟩ := PyProof.V.Flat.str_inv hv;exact h _) hs hg
theorem nbb_meth {pl : Sem Bool} {Q : Value × List Value → Shared → Prop} (F : Fr h₀ L s.heap m) (X : (hd.heap_39 w.params).In h₀) (h : Q (.builtin "dict.get",[.ref 120]) s) :
    wpAny (model prog w) A (getMethod (.ref 120) (Str.ofString "get") pl) Q E s := getMethod_intTab_get (nbb_tab (X.keeps F.keep)) h
end
end
section
theorem band_split (x y : Int) (k : Nat) (hx : 0 ≤ x) (hy : 0 ≤ y) : Builtin.bitAnd x y = 2 ^ k * Builtin.bitAnd (x / 2 ^ k) (y / 2 ^ k) + Builtin.bitAnd (x % 2 ^ k) (y % 2 ^ k) := by
  obtain ⟨a,rfl⟩ := Int.eq_ofNat_of_zero_le hx
  obtain ⟨b,rfl⟩ := Int.eq_ofNat_of_zero_le hy
  have e1 : ((a : Int) / 2 ^ k) = ((a / 2 ^ k : Nat) : Int) := by push_cast;rfl
  have e2 : ((b : Int) / 2 ^ k) = ((b / 2 ^ k : Nat) : Int) := by push_cast;rfl
  have e3 : ((a : Int) % 2 ^ k) = ((a % 2 ^ k : Nat) : Int) := by push_cast;rfl
  have e4 : ((b : Int) % 2 ^ k) = ((b % 2 ^ k : Nat) : Int) := by push_cast;rfl
  rw [e1,e2,e3,e4]
  simp only [bitAnd_pp (Int.natCast_nonneg _) (Int.natCast_nonneg _),Int.toNat_natCast]
  rw [← Nat.and_div_two_pow,← Nat.and_mod_two_pow]
  have := Nat.div_add_mod (a &&& b) (2 ^ k)
  have h2 : ((2 : Int) ^ k) = ((2 ^ k : Nat) : Int) := by push_cast;rfl
  rw [h2,← Int.natCast_mul,← Int.natCast_add,this]
theorem mask_low (v : Int) (h : 0 ≤ v) : Builtin.bitAnd v 28799 = v % 128 + v / 2 ^ 12 % 8 * 2 ^ 12 := by
  rw [band_split v 28799 12 h (by decide),show (28799 : Int) / 2 ^ 12 = 7 from rfl,show (28799 : Int) % 2 ^ 12 = 127 from rfl,bitAnd_m3,bitAnd_m7,Int.emod_emod_of_dvd v (by decide : (128 : Int) ∣ 2 ^ 12)];ac_rfl
theorem mask_high (v : Int) (h : 0 ≤ v ∧ v < 2 ^ 32) : Builtin.bitAnd v 4261441663 = v % 128 + v / 2 ^ 12 % 8 * 2 ^ 12 + v / 2 ^ 25 * 2 ^ 25 := by
  rw [band_split v 4261441663 25 h.1 (by decide),show (4261441663 : Int) / 2 ^ 25 = 127 from rfl,show (4261441663 : Int) % 2 ^ 25 = 28799 from rfl,bitAnd_m7,mask_low _ (Int.emod_nonneg _ (by decide)),Int.emod_emod_of_dvd v (by decide : (128 : Int) ∣ 2 ^ 25),show v % 2 ^ 25 / 2 ^ 12 % 8 = v / 2 ^ 12 % 8 by omega,Int.emod_eq_of_lt (Int.ediv_nonneg h.1 (by decide)) (show v / 2 ^ 25 < 128 by omega)];ac_rfl
theorem mask_fence (v : Int) (h : 0 ≤ v ∧ v < 2 ^ 32) : Builtin.bitAnd v 4027580415 = v % 2 ^ 20 + v / 2 ^ 28 * 2 ^ 28 := by
  rw [band_split v 4027580415 28 h.1 (by decide),show (4027580415 : Int) / 2 ^ 28 = 15 from rfl,show (4027580415 : Int) % 2 ^ 28 = 2 ^ 20 - 1 from rfl,bitAnd_m4,kbt_mask,Int.emod_emod_of_dvd v (by decide : (2 ^ 20 : Int) ∣ 2 ^ 28),Int.emod_eq_of_lt (Int.ediv_nonneg h.1 (by decide)) (show v / 2 ^ 28 < 16 by omega)];ac_rfl
noncomputable def nameR (v : Int) : Str :=
  if ([55,23,111].any fun x=>x == Builtin.bitAnd v 127) = true then nbb (Builtin.bitAnd v 127)
  else if Builtin.bitAnd v 127 = 115 then nbb v
  else if Builtin.bitAnd v 127 = 15 then (if Builtin.bitAnd v 4027580415 = 15 then Str.ofString "fence" else Str.ofString "")
  else if Builtin.bitAnd v 127 = 51 then nbb (Builtin.bitAnd v 4261441663)
  else if Builtin.bitAnd v 127 = 19 then (if ([1,5].any fun x=>x == Builtin.bitAnd (v.fdiv (2 ^ Int.toNat 12)) 7) = true then nbb (Builtin.bitAnd v 4261441663) else nbb (Builtin.bitAnd v 28799))
  else nbb (Builtin.bitAnd v 28799)
noncomputable def nameF (v : Int) : Str :=
  if v % 128 = 55 ∨ v % 128 = 23 ∨ v % 128 = 111 then nbb (v % 128)
  else if v % 128 = 115 then nbb v
  else if v % 128 = 15 then (if v % 2 ^ 20 = 15 ∧ v / 2 ^ 28 = 0 then Str.ofString "fence" else Str.ofString "")
  else if v % 128 = 51 then nbb (v % 128 + v / 2 ^ 12 % 8 * 2 ^ 12 + v / 2 ^ 25 * 2 ^ 25)
  else if v % 128 = 19 then (if v / 2 ^ 12 % 8 = 1 ∨ v / 2 ^ 12 % 8 = 5 then nbb (v % 128 + v / 2 ^ 12 % 8 * 2 ^ 12 + v / 2 ^ 25 * 2 ^ 25) else nbb (v % 128 + v / 2 ^ 12 % 8 * 2 ^ 12))
  else nbb (v % 128 + v / 2 ^ 12 % 8 * 2 ^ 12)
theorem ite_same {c d : Prop} [Decidable c] [Decidable d] {α : Type} {a b a' b' : α} (h : c ↔ d) (e1 : a = a') (e2 : b = b') : (if c then a else b) = if d then a' else b' := by
  subst e1;subst e2
  by_cases hc : c
  · rw [if_pos hc,if_pos (h.mp hc)]
  · rw [if_neg hc,if_neg (fun q=>hc (h.mpr q))]
end
section
open PyProof.Rows.KTD
noncomputable def insT : List (Str × Str × Int) := [(Str.ofString "lui",Str.ofString "U",55),(Str.ofString "auipc",Str.ofString "U",23),(Str.ofString "jal",Str.ofString "J",111),(Str.ofString "jalr",Str.ofString "I",103),(Str.ofString "beq",Str.ofString "B",99),(Str.ofString "bne",Str.ofString "B",4195),(Str.ofString "blt",Str.ofString "B",16483),(Str.ofString "bge",Str.ofString "B",20579),(Str.ofString "bltu",Str.ofString "B",24675),(Str.ofString "bgeu",Str.ofString "B",28771),(Str.ofString "lb",Str.ofString "I",3),(Str.ofString "lh",Str.ofString "I",4099),(Str.ofString "lw",Str.ofString "I",8195),(Str.ofString "lbu",Str.ofString "I",16387),(Str.ofString "lhu",Str.ofString "I",20483),(Str.ofString "sb",Str.ofString "S",35),(Str.ofString "sh",Str.ofString "S",4131),(Str.ofString "sw",Str.ofString "S",8227),(Str.ofString "addi",Str.ofString "I",19),(Str.ofString "slti",Str.ofString "I",8211),(Str.ofString "sltiu",Str.ofString "I",12307),(Str.ofString "xori",Str.ofString "I",16403),(Str.ofString "ori",Str.ofString "I",24595),(Str.ofString "andi",Str.ofString "I",28691),(Str.ofString "slli",Str.ofString "H",4115),(Str.ofString "srli",Str.ofString "H",20499),(Str.ofString "srai",Str.ofString "H",1073762323),(Str.ofString "add",Str.ofString "R",51),(Str.ofString "sub",Str.ofString "R",1073741875),(Str.ofString "sll",Str.ofString "R",4147),(Str.ofString "slt",Str.ofString "R",8243),(Str.ofString "sltu",Str.ofString "R",12339),(Str.ofString "xor",Str.ofString "R",16435),(Str.ofString "srl",Str.ofString "R",20531),(Str.ofString "sra",Str.ofString "R",1073762355),(Str.ofString "or",Str.ofString "R",24627),(Str.ofString "and",Str.ofString "R",28723),(Str.ofString "mul",Str.ofString "R",33554483),(Str.ofString "mulh",Str.ofString "R",33558579),(Str.ofString "mulhsu",Str.ofString "R",33562675),(Str.ofString "mulhu",Str.ofString "R",33566771),(Str.ofString "div",Str.ofString "R",33570867),(Str.ofString "divu",Str.ofString "R",33574963),(Str.ofString "rem",Str.ofString "R",33579059),(Str.ofString "remu",Str.ofString "R",33583155),(Str.ofString "fence",Str.ofString "F",15),(Str.ofString "ecall",Str.ofString "E",115),(Str.ofString "ebreak",Str.ofString "E",1048691)]
noncomputable def insL : List (Str × KTD.Dat) := insT.map fun t=>(t.1,.tup [.str t.2.1,.int t.2.2])
noncomputable def formD : KTD.Dat → Str
  | .tup [.str f,_]=>f
  | _=>Str.ofString ""
noncomputable def formF (n : Str) : Str := match datumAt n insL with
  | some d=>formD d
  | _=>Str.ofString ""
theorem ins_tab {w : World} {h : Heap} (X : (hd.heap_39 w.params).In h) : TextTab h 16 insL := kt_text_in X (by kernel_rfl)
theorem eachL_of {κ : Type} [DecidableEq κ] {h : Heap} {k : κ} {P : Value → Prop} : ∀ {D : List (κ × KTD.Dat)},(∀ p ∈ D,∃ ds,p.2 = .tup ds) → (∀ d v,datumAt k D = some d → d.At h v → P v) → EachL h k P D := by
  intro D
  induction D with
  | nil=>exact fun _ _=>trivial
  | cons q D ih =>
   obtain ⟨x,d⟩ := q
   cases D with
   | nil =>
    intro hD hp e
    obtain ⟨ds,rfl⟩ := hD (x,d) (.head _)
    exact fun a vs h1 h2=>hp (.tup ds) (.ref a) (by show (if decide (k = x) = true then some (KTD.Dat.tup ds) else none) = _;rw [if_pos (decide_eq_true e)]) ⟨a,vs,rfl,h1,h2⟩
   | cons p D =>
    intro hD hp
    refine eachL_ite ?_
    obtain ⟨ds,rfl⟩ := hD (x,d) (.head _)
    by_cases e : k = x
    · rw [if_pos (decide_eq_true e)]
      exact fun a vs h1 h2=>hp (.tup ds) (.ref a) (by show (if decide (k = x) = true then some (KTD.Dat.tup ds) else _) = _;rw [if_pos (decide_eq_true e)]) ⟨a,vs,rfl,h1,h2⟩
    · rw [if_neg (by simp [e])]
      exact ih (fun q hq=>hD q (.tail _ hq)) fun d' v hd hv=>hp d' v (by show (if decide (k = x) = true then some (KTD.Dat.tup ds) else datumAt k (p :: D)) = _;rw [if_neg (by simp [e])];exact hd) hv
theorem at_all {κ δ : Type} [DecidableEq κ] {k : κ} {P : δ → Prop} {D : List (κ × δ)} {d : δ} (hp : ∀ p ∈ D,P p.2) (h : datumAt k D = some d) : P d := by
  induction D with
  | nil=>simp [datumAt] at h
  | cons p D ih =>
    have h : (if decide (k = p.1) = true then some p.2 else datumAt k D) = some d := h
    split at h
    · cases h;exact hp _ (.head _)
    · exact ih (fun p m=>hp p (.tail _ m)) h
theorem ins_all {P : KTD.Dat → Prop} (h : ∀ t ∈ insT,P (.tup [.str t.2.1,.int t.2.2])) : ∀ p ∈ insL,P p.2 := by
  intro p hp
  obtain ⟨t,ht,rfl⟩ := List.mem_map.mp hp
  exact h t ht
theorem ins_two : ∀ p ∈ insL,∃ f b,p.2 = .tup [.str f,.int b] := ins_all (P := fun d=>∃ f b,d = .tup [.str f,.int b]) fun _ _=>⟨_,_,rfl⟩
section
variable {w : World} {A : Around} {E : Value → Shared → Prop} {s : Shared} {h₀ : Heap} {L : Addr} {m : Str → Option Value} {prog : Program}
theorem ins_item {value slice : PySem.Expr} {n : Str} {t : Tok} {Q : Value → Shared → Prop} (F : Fr h₀ L s.heap m) (X : (hd.heap_39 w.params).In h₀) {f : Str} (hn : inKeys n insL = true) (hf : formF n = f)
    (h : ∀ a b t1 t2,IsTup s.heap a #[.str f t1,.int b t2] → Q (.ref a) { s with toks := s.toks + 1 })
    (hs : subscripted slice false (.ref 16) (.str n t) = operate [.ref 16,.str n t] (getItem (.ref 16) (.str n t)) := by with_unfolding_all rfl) (hg : ∀ r,letTemporaryGo value (.ref 16) r = pure () := by intro _;with_unfolding_all rfl) :
    wpAny (model prog w) A (subscriptTail value slice (.ref 16) (.str n t)) Q E s :=
  item_text (h₀ := s.heap) ⟨ins_tab (X.keeps F.keep),fun _ _ e=>e⟩ hn (eachL_of (fun p hp=>let ⟨_,_,e⟩ := ins_two p hp;⟨_,e⟩) fun d v hd hv=>by
    obtain ⟨f',b,rfl⟩ := at_all (P := fun d=>∃ f b,d = .tup [.str f,.int b]) ins_two hd
    obtain ⟨a,vs,rfl,ht,hv⟩ := hv
    have e : f = f' := by rw [← hf,formF,hd];rfl
    rcases hv with _ | ⟨g1,hv⟩
    rcases hv with _ | ⟨g2,hv⟩
    cases hv
    obtain ⟨t1,rfl⟩ := PyProof.V.Flat.str_inv g1
    obtain ⟨t2,rfl⟩ := PyProof.V.Flat.int_inv g2
    exact h a b t1 t2 (by rw [e];exact ht)) hs hg
end
theorem ins_nbb : ∀ i,nbb i ≠ Str.ofString "" → inKeys (nbb i) insL = true := by
  intro i hi
  unfold nbb at hi ⊢
  cases e : PySem.Spec.lookup (.int i) nbbD with
  | none=>rw [e] at hi;exact absurd rfl hi
  | some d =>
    obtain ⟨x,rfl,hx⟩ := lookup_all (P := fun d=>∃ x,d = PyData.str x ∧ inKeys x insL = true) (nbb_all fun t ht=>List.all_eq_true.mp (by kernel_rfl : (nbbT.all fun t=>inKeys t.2 insL) = true) t ht) e
    exact hx
theorem name_cases (v : Int) : (∃ i,nameF v = nbb i) ∨ nameF v = Str.ofString "fence" ∨ nameF v = Str.ofString "" := by
  unfold nameF
  repeat' split
  all_goals first | exact .inl ⟨_,rfl⟩ | exact .inr (.inl rfl) | exact .inr (.inr rfl)
theorem ins_name (v : Int) (h : nameF v ≠ Str.ofString "") : inKeys (nameF v) insL = true := by
  rcases name_cases v with ⟨i,e⟩ | e | e
  · rw [e] at h ⊢;exact ins_nbb _ h
  · rw [e];kernel_rfl
  · exact absurd e h
theorem form_nine (n : Str) (h : inKeys n insL = true) : formF n = Str.ofString "R" ∨ formF n = Str.ofString "I" ∨ formF n = Str.ofString "H" ∨ formF n = Str.ofString "S" ∨ formF n = Str.ofString "B" ∨ formF n = Str.ofString "U" ∨ formF n = Str.ofString "J" ∨ formF n = Str.ofString "F" ∨ formF n = Str.ofString "E" := by
  have h2 := isSome_datumAt (k := n) (D := insL)
  rw [h] at h2
  obtain ⟨d,hd⟩ := Option.isSome_iff_exists.mp h2
  have h3 : formF n = formD d := by unfold formF;rw [hd]
  rw [h3]
  have h4 : [Str.ofString "R",Str.ofString "I",Str.ofString "H",Str.ofString "S",Str.ofString "B",Str.ofString "U",Str.ofString "J",Str.ofString "F",Str.ofString "E"].contains (formD d) = true :=
    at_all (P := fun d=>List.contains _ (formD d) = true) (ins_all (P := fun d=>List.contains _ (formD d) = true) fun t ht=>List.all_eq_true.mp (by kernel_rfl : (insT.all fun t=>List.contains [Str.ofString "R",Str.ofString "I",Str.ofString "H",Str.ofString "S",Str.ofString "B",Str.ofString "U",Str.ofString "J",Str.ofString "F",Str.ofString "E"] t.2.1) = true) t ht) hd
  simpa only [List.contains_iff_mem,List.mem_cons,List.not_mem_nil,or_false] using h4
end
section
noncomputable abbrev CbK (w : World) (mean : ExcName → Option Value) (mg mb : Str → Option Value) (f : Addr) (D : Nat) (news : List (Addr × Obj)) (pre : Prop) (vs : List Value) (K : Heap → Addr → (Str → Option Value) → Shared → (Value → Shared → Prop) → Prop) : Prop :=
  ∀ (dp un : Nat) (gd : Option (List Code)) (cn : Str) (cs : Scope) (a : Addr) (ccd : Value) (cl : List (Str × Addr)) (outer : List Env) (A₀ : Around) (base h₀ : Heap) (L : Addr) (m : Str → Option Value) (s : Shared) (Q E : Value → Shared → Prop),
    Below A₀ base outer h₀ → Fr h₀ L s.heap m → (hd.heap_39 w.params).In h₀ → News h₀ L s.heap news → Top hd.view_39 looseL mean mg mb h₀ → cs.kind = .function →
    pre → dp + D < recursionLimit → un + 8 * D < cLine → K h₀ L m s Q →
      wpAny (model PySem.Challenge.rw_nm0011_01.row.prog w) (ktrTop dp un gd cn cs L a ccd cl outer) (call (.ref f) vs) Q E s
theorem cbk_use {w : World} {mean : ExcName → Option Value} {mg mb : Str → Option Value} {f : Addr} {D : Nat} {news : List (Addr × Obj)} {pre : Prop} {vs : List Value} {K : Heap → Addr → (Str → Option Value) → Shared → (Value → Shared → Prop) → Prop}
    (C : CbK w mean mg mb f D news pre vs K)
    {dp un : Nat} {gd : Option (List Code)} {cn : Str} {cs : Scope} {a : Addr} {ccd : Value} {cl : List (Str × Addr)} {outer : List Env} {A₀ : Around} {base h₀ : Heap} {L : Addr} {m : Str → Option Value} {s : Shared} {Q E : Value → Shared → Prop}
    (B : Below A₀ base outer h₀) (F : Fr h₀ L s.heap m) (X : (hd.heap_39 w.params).In h₀) (N : News h₀ L s.heap news) (T : Top hd.view_39 looseL mean mg mb h₀) (hk : cs.kind = .function)
    (hp : pre) (hd : dp + D < recursionLimit) (hu : un + 8 * D < cLine) (hR : K h₀ L m s Q) :
    wpAny (model PySem.Challenge.rw_nm0011_01.row.prog w) (ktrTop dp un gd cn cs L a ccd cl outer) (call (.ref f) vs) Q E s :=
  C _ _ _ _ _ _ _ _ _ _ _ _ _ _ _ _ _ B F X N T hk hp hd hu hR
noncomputable abbrev DecK (w : World) (news : List (Addr × Obj)) (n : Str) (kvs : List (Str × Value) → Prop) (h₀ : Heap) (L : Addr) (m : Str → Option Value) (s : Shared) (Q : Value → Shared → Prop) : Prop :=
  ∀ (T d : Addr) (o : Obj) (tn : Tok) (l : List (Str × Value)) (h' : Heap) (tk' : Nat),kvs l → o.IsDictOf (PySem.strKind PySem.Challenge.rw_nm0011_01.row.prog w) l → (d == sysModules) = false → Fr h₀ L h' m →
    News h₀ L h' ((T,{ cls := .type "tuple",data := .seq #[.str n tn,.ref d] }) :: (d,o) :: news) → Q (.ref T) { s with heap := h',toks := tk' }
noncomputable def fldF (v : Int) (k : Nat) : Int := Builtin.bitAnd (v.fdiv (2 ^ k)) 31
theorem fld_eq (v : Int) (k : Nat) : fldF v k = v / 2 ^ k % 32 := by rw [fldF,fd,bitAnd_m5]
theorem fld_range (v : Int) (k : Nat) : 0 ≤ fldF v k ∧ fldF v k < 32 := by rw [fld_eq];omega
noncomputable def kvR (v : Int) : List (Str × Value) → Prop := fun l=>∃ t0 t1 t2 : Tok,l = [(Str.ofString "rd",.int (fldF v 7) t0),(Str.ofString "rs1",.int (fldF v 15) t1),(Str.ofString "rs2",.int (fldF v 20) t2)]
noncomputable def kvI (v : Int) : List (Str × Value) → Prop := fun l=>∃ t0 t1 t2 : Tok,l = [(Str.ofString "rd",.int (fldF v 7) t0),(Str.ofString "rs1",.int (fldF v 15) t1),(Str.ofString "imm",.int (immI v) t2)]
noncomputable def kvH (v : Int) : List (Str × Value) → Prop := fun l=>∃ t0 t1 t2 : Tok,l = [(Str.ofString "rd",.int (fldF v 7) t0),(Str.ofString "rs1",.int (fldF v 15) t1),(Str.ofString "imm",.int (immH v) t2)]
noncomputable def kvS (v : Int) : List (Str × Value) → Prop := fun l=>∃ t0 t1 t2 : Tok,l = [(Str.ofString "rs1",.int (fldF v 15) t0),(Str.ofString "rs2",.int (fldF v 20) t1),(Str.ofString "imm",.int (immS v) t2)]
noncomputable def kvB (v : Int) : List (Str × Value) → Prop := fun l=>∃ t0 t1 t2 : Tok,l = [(Str.ofString "rs1",.int (fldF v 15) t0),(Str.ofString "rs2",.int (fldF v 20) t1),(Str.ofString "imm",.int (immB v) t2)]
noncomputable def kvU (v : Int) : List (Str × Value) → Prop := fun l=>∃ t0 t1 : Tok,l = [(Str.ofString "rd",.int (fldF v 7) t0),(Str.ofString "imm",.int (immU v) t1)]
noncomputable def kvJ (v : Int) : List (Str × Value) → Prop := fun l=>∃ t0 t1 : Tok,l = [(Str.ofString "rd",.int (fldF v 7) t0),(Str.ofString "imm",.int (immJ v) t1)]
noncomputable def kvF (v : Int) : List (Str × Value) → Prop := fun l=>∃ t0 : Tok,l = [(Str.ofString "imm",.int (immF v) t0)]
noncomputable def kvE (v : Int) : List (Str × Value) → Prop := fun l=>l = []
noncomputable def kvAll (v : Int) (l : List (Str × Value)) : Prop := (formF (nameF v) = Str.ofString "R" ∧ kvR v l) ∨ (formF (nameF v) = Str.ofString "I" ∧ kvI v l) ∨ (formF (nameF v) = Str.ofString "H" ∧ kvH v l) ∨ (formF (nameF v) = Str.ofString "S" ∧ kvS v l) ∨ (formF (nameF v) = Str.ofString "B" ∧ kvB v l) ∨ (formF (nameF v) = Str.ofString "U" ∧ kvU v l) ∨ (formF (nameF v) = Str.ofString "J" ∧ kvJ v l) ∨ (formF (nameF v) = Str.ofString "F" ∧ kvF v l) ∨ (formF (nameF v) = Str.ofString "E" ∧ kvE v l)
end
section
open PyProof.Rows.KTD
noncomputable def regsL : List Str := [Str.ofString "zero",Str.ofString "ra",Str.ofString "sp",Str.ofString "gp",Str.ofString "tp",Str.ofString "t0",Str.ofString "t1",Str.ofString "t2",Str.ofString "s0",Str.ofString "s1",Str.ofString "a0",Str.ofString "a1",Str.ofString "a2",Str.ofString "a3",Str.ofString "a4",Str.ofString "a5",Str.ofString "a6",Str.ofString "a7",Str.ofString "s2",Str.ofString "s3",Str.ofString "s4",Str.ofString "s5",Str.ofString "s6",Str.ofString "s7",Str.ofString "s8",Str.ofString "s9",Str.ofString "s10",Str.ofString "s11",Str.ofString "t3",Str.ofString "t4",Str.ofString "t5",Str.ofString "t6"]
noncomputable def regF (i : Int) : Str := regsL.getD i.toNat Str.empty
theorem regs_at {w : World} {h : Heap} (X : (hd.heap_39 w.params).In h) : ∃ vs,h.IsList 15 (List.toArray vs) ∧ StrsAre vs regsL := by
  obtain ⟨a,vs,e,r⟩ := dat_of_looks (get := fun b=>(hd.heap_39 w.params).lookup b) (h := h) (fun b o q=>X b o q) (.words regsL) (.ref 15) (by kernel_rfl)
  cases e
  exact ⟨vs,r⟩
section
variable {w : World} {A : Around} {E : Value → Shared → Prop} {s : Shared} {h₀ : Heap} {L : Addr} {m : Str → Option Value} {prog : Program}
theorem reg_item {value slice : PySem.Expr} {i : Int} {t : Tok} {Q : Value → Shared → Prop} (F : Fr h₀ L s.heap m) (X : (hd.heap_39 w.params).In h₀) (hi : 0 ≤ i ∧ i < 32)
    (h : ∀ t',Q (.str (regF i) t') s)
    (hs : subscripted slice false (.ref 15) (.int i t) = operate [.ref 15,.int i t] (getItem (.ref 15) (.int i t)) := by with_unfolding_all rfl) (hg : ∀ r,letTemporaryGo value (.ref 15) r = pure () := by intro _;with_unfolding_all rfl) :
    wpAny (model prog w) A (subscriptTail value slice (.ref 15) (.int i t)) Q E s := by
  obtain ⟨vs,h1,h2⟩ := regs_at (X.keeps F.keep)
  exact item_strsA h1 h2 hi.1 (by show i < 32;exact hi.2) (by omega) h hs hg
end
section
variable {prog : Program} {w : World} {A : Around} {E : Value → Shared → Prop} {s : Shared} {h₀ g : Heap} {L L' d : Addr} {m : Str → Option Value} {news : List (Addr × Obj)} {o : Obj} {kvs : List (Str × Value)} {k : Str} {t : Tok} {v : Value}
theorem dict_item {value slice : PySem.Expr} {Q : Value → Shared → Prop} (N : News h₀ L s.heap news) (hp : (d,o) ∈ news) (hd : o.IsDictOf (PySem.strKind prog w) kvs) (hl : PySem.valueAt kvs k = some v) (h : Q v { s with toks := s.toks + 1 })
    (hs : subscripted slice false (.ref d) (.str k t) = operate [.ref d,.str k t] (getItem (.ref d) (.str k t)) := by with_unfolding_all rfl) (hg : ∀ r,letTemporaryGo value (.ref d) r = pure () := by intro _;with_unfolding_all rfl) :
    wpAny (model prog w) A (subscriptTail value slice (.ref d) (.str k t)) Q E s :=
  kda_item N hp hd (strKind_is _ _ _ _) hl h hs hg
end
noncomputable def placeF (n : Str) : Bool := n == Str.ofString "jalr" || [Str.ofString "lb",Str.ofString "lh",Str.ofString "lw",Str.ofString "lbu",Str.ofString "lhu",Str.ofString "sb",Str.ofString "sh",Str.ofString "sw"].any (· == n)
theorem placeE1 {n : Str} (h : (n == Str.ofString "jalr") = true) : (n == Str.ofString "jalr") = placeF n := by unfold placeF;rw [h];rfl
theorem placeE2 {n : Str} (h : (n == Str.ofString "jalr") = false) : ([Str.ofString "lb",Str.ofString "lh",Str.ofString "lw",Str.ofString "lbu",Str.ofString "lhu",Str.ofString "sb",Str.ofString "sh",Str.ofString "sw"].any fun x=>x == n) = placeF n := by unfold placeF;rw [h];rfl
end
section
open PyProof.Rows.LCg PySem.Calls
section
variable {prog : Program} {w : World} {A : Around} {E : Value → Shared → Prop} {s : Shared} {h₀ : Heap} {L : Addr} {m : Str → Option Value} {env : Env}
inductive Twos (h : Heap) : List Value → List (Str × Int) → Prop
  | nil : Twos h [] []
  | cons {T : Addr} {x : Str} {i : Int} {t u : Tok} {vs : List Value} {ps : List (Str × Int)} : h.IsTuple T #[.str x t,.int i u] → Twos h vs ps → Twos h (.ref T :: vs) ((x,i) :: ps)
theorem Twos.length {h : Heap} {vs : List Value} {ps : List (Str × Int)} (H : Twos h vs ps) : vs.length = ps.length := by
  induction H with
  | nil=>rfl
  | cons _ _ ih=>exact congrArg (· + 1) ih
theorem Twos.item {h : Heap} {vs : List Value} {ps : List (Str × Int)} (H : Twos h vs ps) : ∀ (i : Nat) (v : Value),vs[i]? = some v → ∃ p T t u,ps[i]? = some p ∧ v = .ref T ∧ h.IsTuple T #[.str p.1 t,.int p.2 u] := by
  induction H with
  | nil=>intro i v e;simp at e
  | cons ht r ih =>
    intro i v e
    cases i with
    | zero=>cases e;exact ⟨_,_,_,_,rfl,rfl,ht⟩
    | succ i=>exact ih i v e
theorem Twos.el {h : Heap} {vs : List Value} {ps : List (Str × Int)} {i : Nat} {v : Value} {P : Prop} (H : Twos h vs ps) (e : vs[i]? = some v) (k : ∀ p T t u,ps[i]? = some p → v = .ref T → h.IsTuple T #[.str p.1 t,.int p.2 u] → P) : P := let ⟨p,T,t,u,a,b,c⟩ := H.item i v e;k p T t u a b c
noncomputable def TurnB (h₀ : Heap) (L : Addr) (m : Str → Option Value) (prog : Program) (w : World) (A : Around) (elt : Expr) (cenv : Env) (E' : Value → Shared → Prop) (s : Shared) (l : List (Addr × Obj)) (x : Str) (b ok : Bool) (s₃ : Shared) : Prop :=
  ok = b ∧ if ok = true then wpAny (model prog w) A (eval elt cenv) (Plain h₀ L m s l (fun y=>∃ t,y = .str x t)) E' s₃ else Plain h₀ L m s l (fun _=>True) .none s₃
theorem turnB_intro {prog : Program} {w : World} {A : Around} {elt : Expr} {cenv : Env} {E' : Value → Shared → Prop} {s s₃ : Shared} {l : List (Addr × Obj)} {x : Str} {b ok : Bool} (e : ok = b)
    (h1 : ok = true → wpAny (model prog w) A (eval elt cenv) (Plain h₀ L m s l (fun y=>∃ t,y = .str x t)) E' s₃) (h2 : ok = false → Plain h₀ L m s l (fun _=>True) .none s₃) : TurnB h₀ L m prog w A elt cenv E' s l x b ok s₃ :=
  ⟨e,by cases ok;exact h2 rfl;exact h1 rfl⟩
noncomputable abbrev Turn2 (prog : Program) (w : World) (A : Around) (h₀ : Heap) (L : Addr) (m : Str → Option Value) (env : Env) (c elt : Expr) (a b : Str) (scope : Scope) (cl : List (Str × Addr)) (s : Shared) (keep : Str × Int → Bool) (p : Str × Int) (news : List (Addr × Obj)) : Prop :=
  ∀ t u I oI C oC D oD m₂ h tk (E' : Value → Shared → Prop),NsObj oC m₂ → m₂ a = some (.str p.1 t) → m₂ b = some (.int p.2 u) → Fr h₀ L h m → News h₀ L h ((I,oI) :: (C,oC) :: (D,oD) :: news) → Off3 I C D news → ((@Ne Nat I C) ∧ (@Ne Nat I D) ∧ (@Ne Nat C D)) →
    wpAny (model prog w) A (isTrue c (compEnvC scope cl C env) (eval c (compEnvC scope cl C env))) (TurnB h₀ L m prog w A elt (compEnvC scope cl C env) E' { s with heap := h,toks := tk } ((I,oI) :: (C,oC) :: (D,oD) :: news) p.1 (keep p)) E' { s with heap := h,toks := tk }
inductive SrcTwo (prog : Program) (w : World) (A : Around) (h₀ : Heap) (L : Addr) (m : Str → Option Value) (env : Env) (c elt : Expr) (a b : Str) (scope : Scope) (cl : List (Str × Addr)) (keep : Str × Int → Bool) (Q : Value → Shared → Prop) (xv : Value) (s₁ : Shared) : Prop
  | mk' (ax vs ps news : _) (h0 : xv = .ref ax) (h1 : A.handled = none) (h2 : Fr h₀ L s₁.heap m) (h3 : News h₀ L s₁.heap news) (h4 : h₀.IsList ax (List.toArray vs)) (h5 : Twos h₀ vs ps) (h6 : ps.length ≤ sizeLine) (h7 : (∀ g,∀ p ∈ ps,Turn2 prog w A h₀ L m env c elt a b scope cl { s₁ with heap := g } keep p news)) (h8 : (∀ ys D h tk,StrsAre ys ((ps.filter keep).map (·.1)) → Fr h₀ L h m → News h₀ L h ((D,lst ys) :: news) → Off1 D news → Q (.ref D) { s₁ with heap := h,toks := tk })) : SrcTwo prog w A h₀ L m env c elt a b scope cl keep Q xv s₁
theorem strs_snoc {y : Str} {t : Tok} {vs : List Value} {ys : List Str} (h : StrsAre vs ys) : StrsAre (vs ++ [.str y t]) (ys ++ [y]) := h.append' (.cons _ _ .nil)
inductive TwoI (h₀ : Heap) (L : Addr) (m : Str → Option Value) (news : List (Addr × Obj)) (s₂ : Shared) (I C D ax : Addr) (ps : List (Str × Int)) (keep : Str × Int → Bool) (k : Nat) (s' : Shared) : Prop
  | mk' (h' tk i ys m' : _) (h0 : s' = { s₂ with heap := h',toks := tk }) (h1 : i ≤ ps.length) (h2 : k = ps.length + 1 - i) (h3 : ys.length ≤ i) (h4 : StrsAre ys (((ps.take i).filter keep).map (·.1))) (h5 : h'.IsListIter I ax i) (h6 : Fr h₀ L h' m) (h7 : h'.Ns C m') (h8 : News h₀ L h' ((D,lst ys) :: news)) : TwoI h₀ L m news s₂ I C D ax ps keep k s'
theorem comp_two {elt iter c : Expr} {a b : Str} {pa pb tp : Pos} {kk : Nat} {scope : Scope} {cl : List (Str × Addr)} {pos : Pos} {keep : Str × Int → Bool} {Q : Value → Shared → Prop} (_F₀ : Fr h₀ L s.heap m)
    (hclos : closureFor scope env = pure cl) (hcell : ∀ y ∈ scope.names,y.2 ≠ .cell) (hkind : scope.kind = .function)
    (hnames : ∀ y ∈ scope.names,y.2 = .local → scope.names.lookup y.1 = some .local) (hxa : scope.names.lookup a = some .local) (hxb : scope.names.lookup b = some .local) (hab : ¬ a = b)
    (h : wpAny (model prog w) A (eval iter env) (SrcTwo prog w A h₀ L m env c elt a b scope cl keep Q) E s)
    (hs : ∀ x,foldedSetIterable iter env x = pure x := by intro _;rfl) :
    wpAny (model prog w) A (eval (.ListComp elt [⟨.Tuple [.Name a pa,.Name b pb] kk tp,iter,[c],0⟩] scope pos) env) Q E s := by
  rw [eval_ListComp]
  refine wpAny_comprehension_free (use := none) rfl hs hclos hkind hnames (wpAny_mono h (fun xv s₁ h₁=>?_) fun _ _ e=>e)
  obtain ⟨ax,vs,ps,news,rfl,hh,F,N,hl,hps,hsz,hturn,hq⟩ := h₁
  have hax : ax < s₁.heap.objs.size := by obtain ⟨o,ho,_⟩ := hl;exact Heap.lt_size (F.keep _ _ ho)
  refine wpAny_pyIter_list (hl.at fun o e=>F.keep _ _ e) ?_
  let I := s₁.heap.objs.size
  have hne : ax ≠ I := Nat.ne_of_lt hax
  have W := KTurns.ofWalks (target := .Tuple [.Name a pa,.Name b pb] kk tp) (Walks.list (prog := prog) (w := w) hh I ax hne vs.toArray) fun i v s Q E st q=>letGo_listiter st.1 q
  generalize hs2 : ({ s₁ with heap := s₁.heap.push { cls := .type "list_iterator",data := .fields #[.ref ax,.int 0 0] } } : Shared) = s₂
  have hit : s₂.heap.IsListIter I ax 0 := by subst hs2;exact ⟨_,Heap.get?_push_size _ rfl,rfl,rfl⟩
  have F2 : Fr h₀ L s₂.heap m := by subst hs2;exact F.push _
  have N2 : News h₀ L s₂.heap news := by subst hs2;exact fun p hp=>⟨Heap.get?_push_of_some _ (N p hp).1,(N p hp).2⟩
  have hIlt : I < s₂.heap.objs.size := by subst hs2;show s₁.heap.objs.size < (s₁.heap.push _).objs.size;rw [Heap.size_push];exact Nat.lt_succ_self _
  have hI₀ : h₀.get? I = none := next_is_new F
  have hIL : L ≠ I := Nat.ne_of_lt F.ns.lt
  have offI : ∀ p ∈ news,p.1 ≠ I := fun p hp=>Nat.ne_of_lt (Heap.lt_size (N p hp).1)
  have back : ∀ h tk,({ s₁ with heap := h,toks := tk } : Shared) = { s₂ with heap := h,toks := tk } := by subst hs2;intro h tk;rfl
  have turn2 : ∀ g tk,∀ p ∈ ps,Turn2 prog w A h₀ L m env c elt a b scope cl { s₂ with heap := g,toks := tk } keep p news := by subst hs2;exact fun g tk p hp=>hturn g p hp
  refine wpAny_newObj_type (wpAny_newFunctionEnv hcell (by intro y hy;simp at hy) (fun h₁ hns₁ hsb₁=>?_) hkind)
  dsimp only at hns₁ hsb₁ ⊢
  generalize hH2 : s₂.heap.push { cls := .type "list",dict := none,data := .seq ([] : List Value).toArray } = H2 at hns₁ hsb₁ ⊢
  have hC : H2.objs.size = s₂.heap.objs.size + 1 := by rw [← hH2,Heap.size_push]
  have hDC : s₂.heap.objs.size ≠ H2.objs.size := by rw [hC];exact Nat.ne_of_lt (Nat.lt_succ_self _)
  have below : ∀ b,b < s₂.heap.objs.size → b ≠ H2.objs.size ∧ b ≠ s₂.heap.objs.size := fun b hb=>⟨by rw [hC];exact Nat.ne_of_lt (Nat.lt_succ_of_lt hb),Nat.ne_of_lt hb⟩
  have old : ∀ b o,s₂.heap.get? b = some o → h₁.get? b = some o := fun b o e=>hsb₁.extBut b o (below b (Heap.lt_size e)).1 (Heap.get?_push_of_some _ (hH2 ▸ Heap.get?_push_of_some _ e))
  have hacc : h₁.get? s₂.heap.objs.size = some (lst []) := hsb₁.extBut _ _ hDC (Heap.get?_push_of_some _ (hH2 ▸ Heap.get?_push_size _ rfl))
  have fresh : ∀ a,s₂.heap.objs.size ≤ a → h₀.get? a = none := fun a ha=>by
    cases e : h₀.get? a with
    | none=>rfl
    | some o'=>exact absurd (Heap.lt_size (F2.keep a o' e)) (Nat.not_lt.mpr ha)
  have hD₀ : h₀.get? s₂.heap.objs.size = none := fresh _ (Nat.le_refl _)
  have hC₀ : h₀.get? H2.objs.size = none := fresh _ (by rw [hC];exact Nat.le_succ _)
  have hLlt : L < s₂.heap.objs.size := F2.ns.lt
  have hDL : s₂.heap.objs.size ≠ L := Ne.symm (below L hLlt).2
  have hCL : H2.objs.size ≠ L := Ne.symm (below L hLlt).1
  have hCI : I ≠ H2.objs.size := (below I hIlt).1
  have hDI : I ≠ s₂.heap.objs.size := (below I hIlt).2
  have off₀ : Off3 I H2.objs.size s₂.heap.objs.size news := Off3.of fun p hp=>⟨offI p hp,(below _ (Heap.lt_size (N2 p hp).1)).1,(below _ (Heap.lt_size (N2 p hp).1)).2⟩
  have off3 := off₀.mem
  have hlen := hps.length
  have loop : ∀ R : Result → Shared → Prop,(∀ h tk m' ys,h.Ns H2.objs.size m' → Fr h₀ L h m → News h₀ L h ((s₂.heap.objs.size,lst ys) :: news) → StrsAre ys ((ps.filter keep).map (·.1)) → R (.ok .next) { s₂ with heap := h,toks := tk }) →
      ∀ s₃ : Shared,s₃ = { s₂ with heap := h₁,toks := s₂.toks + ([] : List (Str × Value)).length } →
      codeAny (model prog w) A (.compLoop (.ListComp elt [⟨.Tuple [.Name a pa,.Name b pb] kk tp,iter,[c],0⟩] scope pos) 0 (.ref I) (.ref s₂.heap.objs.size) (compEnvC scope cl H2.objs.size env)) R s₃ := by
    rintro R hR s₃ rfl
    refine kct_loop
      (TwoI h₀ L m news s₂ I H2.objs.size s₂.heap.objs.size ax ps keep) ?_ (ps.length + 1)
      (TwoI.mk' h₁ _ 0 [] _ rfl (Nat.zero_le _) rfl (Nat.le_refl _) .nil ⟨_,old _ _ hit.choose_spec.1,hit.choose_spec.2.1,hit.choose_spec.2.2⟩ (F2.keeps old) hns₁ fun p hp=>?_)
    · intro k s' HI
      obtain ⟨h',tk,i,ys,m',rfl,hi,rfl,hyl,hys,hit',F',hn',N'⟩ := HI
      have hl' : h'.IsList ax vs.toArray := hl.at fun o e=>F'.keep _ _ e
      by_cases hlt : i < ps.length
      · refine W.item i _ _ _ (by simpa [hlen] using hlt) ⟨hit',hl'⟩ fun v h₂ tk₂ hMd hk₂=>?_
        refine W.go i v _ _ _ hMd fun h₃ hP hst₃ hk₃=>?_
        have hP : vs[i]? = some v := by simpa using hP
        refine Twos.el hps hP fun p T t u hp e₁ hT=>?_
        subst e₁
        have up₃ : ∀ c o,c ≠ I → h'.get? c = some o → h₃.get? c = some o := fun c o hc e=>hk₃ c o (by simpa using hc) (hk₂ c o (by simpa using hc) e)
        have hTI : T ≠ I := fun q=>by obtain ⟨o,ho,_⟩ := hT;rw [q,hI₀] at ho;cases ho
        refine kcp_assign (env := compEnvC scope cl H2.objs.size env) hh (hT.at fun o e=>up₃ _ o hTI (F'.keep _ _ e)) (lookup_relabel_local hxa) (lookup_relabel_local hxb) (by simp [compEnvC,relabel,hkind]) (hn'.at' fun o e=>up₃ _ o (Ne.symm hCI) e) fun h₄ tk₄ hn₄ hs₄=>?_
        have up : ∀ c o,c ≠ I → c ≠ H2.objs.size → h'.get? c = some o → h₄.get? c = some o := fun c o h1 h2 e=>hs₄ c o h2 (up₃ c o h1 e)
        obtain ⟨oI,hoI,hcI,hdI⟩ := hst₃.1
        have heI : h₄.get? I = some oI := hs₄ I _ hCI hoI
        obtain ⟨oC,heC,hoC⟩ := ns_obj hn₄
        have F₄ : Fr h₀ L h₄ m := ⟨F'.ns.at' fun o e=>up _ o hIL (Ne.symm hCL) e,fun c o e=>up c o (fun q=>by rw [q,hI₀] at e;cases e) (fun q=>by rw [q,hC₀] at e;cases e) (F'.keep c o e),F'.above⟩
        have N₄ : News h₀ L h₄ ((I,oI) :: (H2.objs.size,oC) :: (s₂.heap.objs.size,lst ys) :: news) := fun q hq=>by
          rcases List.mem_cons.mp hq with rfl | hq
          · exact ⟨heI,Ne.symm hIL,hI₀⟩
          · rcases List.mem_cons.mp hq with rfl | hq
            · exact ⟨heC,hCL,hC₀⟩
            · have z := N' q hq
              refine ⟨up _ _ ?_ ?_ z.1,z.2⟩
              · rcases List.mem_cons.mp hq with rfl | hq
                · exact Ne.symm hDI
                · exact (off3 q hq).1
              · rcases List.mem_cons.mp hq with rfl | hq
                · exact hDC
                · exact (off3 q hq).2.1
        have htake : ps.take (i + 1) = ps.take i ++ [p] := by rw [List.take_succ,hp];rfl
        have fin : ∀ (ys' : List Value) (h₅ : Heap) (tk₅ : Nat),ys'.length ≤ i + 1 → StrsAre ys' (((ps.take (i + 1)).filter keep).map (·.1)) → Fr h₀ L h₅ m → News h₀ L h₅ ((I,oI) :: (H2.objs.size,oC) :: (s₂.heap.objs.size,lst ys') :: news) →
            ∃ q',q' < ps.length + 1 - i ∧ TwoI h₀ L m news s₂ I H2.objs.size s₂.heap.objs.size ax ps keep q' { s₂ with heap := h₅,toks := tk₅ } := fun ys' h₅ tk₅ hl5 hys5 F₅ N₅ =>
          ⟨ps.length + 1 - (i + 1),by omega,TwoI.mk' h₅ tk₅ (i + 1) ys' _ rfl hlt rfl hl5 hys5 ⟨oI,(N₅ (I,oI) List.mem_cons_self).1,hcI,hdI⟩ F₅ (hoC.ns (N₅ (H2.objs.size,oC) (List.mem_cons_of_mem _ List.mem_cons_self)).1) fun q hq=>N₅ q (List.mem_cons_of_mem _ (List.mem_cons_of_mem _ hq))⟩
        refine wpAny_mono (turn2 h₄ 0 p (List.mem_of_getElem? hp) t u I oI H2.objs.size oC s₂.heap.objs.size _ _ h₄ _ _ hoC (by simp [hab]) (by simp) F₄ N₄ off₀ ⟨hCI,hDI,Ne.symm hDC⟩) (fun okb s₅ h₅=>?_) fun _ _ e=>e
        have hok := h₅.1
        replace h₅ := h₅.2
        cases okb with
        | false =>
          simp only [Bool.false_eq_true,if_false] at h₅ ⊢
          obtain ⟨g₅,tk₅,news₅,rfl,F₅,N₅,sub₅,_⟩ := h₅
          exact fin ys g₅ tk₅ (Nat.le_succ_of_le hyl) (by rw [htake,List.filter_append,List.filter_cons,← hok];simpa using hys) F₅ (fun q hq=>N₅ q (sub₅ q hq))
        | true =>
          simp only [if_true] at h₅ ⊢
          refine wpAny_mono h₅ (fun y s₆ h₆=>?_) fun _ _ e=>e
          obtain ⟨h₅,tk₅,news₅,rfl,F₅,N₅,sub₅,ty,rfl⟩ := h₆
          have N₅ : News h₀ L h₅ _ := fun q hq=>N₅ q (sub₅ q hq)
          have zI := (N₅ (I,oI) List.mem_cons_self).1
          have zC := (N₅ (H2.objs.size,oC) (List.mem_cons_of_mem _ List.mem_cons_self)).1
          have zD := (N₅ (s₂.heap.objs.size,lst ys) (List.mem_cons_of_mem _ (List.mem_cons_of_mem _ List.mem_cons_self))).1
          have N₅' : News h₀ L h₅ news := fun q hq=>N₅ q (List.mem_cons_of_mem _ (List.mem_cons_of_mem _ (List.mem_cons_of_mem _ hq)))
          refine append_at (hsz := by show ys.toArray.size ≤ sizeLine;rw [List.size_toArray];exact Nat.le_trans hyl (Nat.le_trans hi hsz)) zD fun h₆ hs₆ hD₆=>?_
          refine fin (ys ++ [.str p.1 ty]) h₆ _ (by rw [List.length_append,List.length_singleton];exact Nat.succ_le_succ hyl) (by rw [htake,List.filter_append,List.filter_cons,← hok];simpa using strs_snoc hys) (F₅.change hs₆ hDL hD₀) (fun q hq=>?_)
          rcases List.mem_cons.mp hq with rfl | hq
          · exact ⟨hs₆.extBut I oI hDI zI,Ne.symm hIL,hI₀⟩
          rcases List.mem_cons.mp hq with rfl | hq
          · exact ⟨hs₆.extBut _ oC (Ne.symm hDC) zC,hCL,hC₀⟩
          rcases List.mem_cons.mp hq with rfl | hq
          · exact ⟨hD₆.trans (congrArg some (lst_snoc ys _)),hDL,hD₀⟩
          · exact ⟨hs₆.extBut _ _ (off3 q hq).2.2 (N₅' q hq).1,(N₅' q hq).2⟩
      · have hin : i = ps.length := Nat.le_antisymm hi (Nat.not_lt.mp hlt)
        subst hin
        rw [List.take_length] at hys
        refine W.done _ _ _ ⟨by simpa [hlen] using hit',hl'⟩ fun h₂ tk₂ hk₂=>?_
        exact hR _ _ m' ys (hn'.at' fun o e=>hk₂ _ o (by simpa using Ne.symm hCI) e) (fr_but F' hk₂ hIL hI₀) (news_but N' hk₂ fun p hp=>by
          rcases List.mem_cons.mp hp with rfl | hp
          · exact Ne.symm hDI
          · exact (off3 p hp).1) hys
    · rcases List.mem_cons.mp hp with rfl | hp
      · exact ⟨hacc,hDL,hD₀⟩
      · exact ⟨old _ _ (N2 p hp).1,(N2 p hp).2⟩
  have hit₁ : h₁.IsListIter I ax 0 := ⟨_,old _ _ hit.choose_spec.1,hit.choose_spec.2.1,hit.choose_spec.2.2⟩
  have done : ∀ h tk m' ys,h.Ns H2.objs.size m' → Fr h₀ L h m → News h₀ L h ((s₂.heap.objs.size,lst ys) :: news) → StrsAre ys ((ps.filter keep).map (·.1)) →
      ∃ m',h.Ns H2.objs.size m' ∧ ∀ h'',Heap.SameBut H2.objs.size h h'' → Q (.ref s₂.heap.objs.size) { s₂ with heap := h'',toks := tk } := fun h tk m' ys hn F' N' hys =>
    ⟨m',hn,fun h'' hs''=>by
      rw [← back]
      refine hq ys _ h'' _ hys (F'.change hs'' hCL hC₀) (fun p hp=>?_) off₀.one
      refine ⟨hs''.extBut _ _ ?_ (N' p hp).1,(N' p hp).2⟩
      rcases List.mem_cons.mp hp with rfl | hp
      · exact hDC
      · exact (off3 p hp).2.1⟩
  exact codeAny_compStart_list (loop _ done _ rfl) (wpAny_pyIter_listiter hit₁ (loop _ done _ rfl))
end
end
section
open PyProof.Rows.LCg PySem.Calls
noncomputable def fbL : List (Str × Int) := [(Str.ofString "i",8),(Str.ofString "o",4),(Str.ofString "r",2),(Str.ofString "w",1)]
theorem fb_at {w : World} {h : Heap} (X : (hd.heap_39 w.params).In h) : ∃ vs,h.IsList 334 (List.toArray vs) ∧ Twos h vs fbL :=
  ⟨_,⟨_,X 334 _ rfl,rfl,_,rfl⟩,.cons ⟨_,X 330 _ rfl,rfl,_,rfl⟩ (.cons ⟨_,X 331 _ rfl,rfl,_,rfl⟩ (.cons ⟨_,X 332 _ rfl,rfl,_,rfl⟩ (.cons ⟨_,X 333 _ rfl,rfl,_,rfl⟩ .nil)))⟩
noncomputable def fbF (b : Int) : List Str := (fbL.filter fun p=>Builtin.bitAnd b p.2 != 0).map (·.1)
noncomputable def fsetF (b : Int) : Str := if Txt.join (Str.ofString "") (fbF b) = Str.ofString "" then Str.ofString "0" else Txt.join (Str.ofString "") (fbF b)
theorem fb_weight (b : Int) : ((fbF b).map (·.length)).sum ≤ 4 := by
  unfold fbF
  simp only [fbL,List.filter_cons,List.filter_nil]
  repeat' split
  all_goals decide
theorem fb_len (b : Int) : (fbF b).length ≤ 4 := by
  unfold fbF
  rw [List.length_map]
  exact Nat.le_trans (List.length_filter_le _ _) (by decide)
theorem join_fb {prog : Program} {w : World} {A : Around} {E : Value → Shared → Prop} {s : Shared} {t : Tok} {Q : Value → Shared → Prop} {h₀ : Heap} {L D : Addr} {news : List (Addr × Obj)} {ys : List Value} {b : Int}
    (N : News h₀ L s.heap news) (hm : (D,lst ys) ∈ news) (hy : StrsAre ys (fbF b))
    (h : ∀ t' k,Q (.str (Txt.join (Str.ofString "") (fbF b)) t') { s with toks := k }) : wpAny (model prog w) A (call (.builtin "str.join") [.str (Str.ofString "") t,.ref D]) Q E s :=
  join_listW (News.isList N hm) (by rw [List.toList_toArray];exact hy) (by decide) (by have := fb_weight b;have := fb_len b;omega) h
theorem fset_e1 {b : Int} (h : (Txt.join (Str.ofString "") (fbF b) != Str.ofString "") = true) : Txt.join (Str.ofString "") (fbF b) = fsetF b := by
  unfold fsetF;rw [if_neg (by simpa using h)]
theorem fset_e2 {b : Int} (h : (Txt.join (Str.ofString "") (fbF b) != Str.ofString "") = false) : Str.ofString "0" = fsetF b := by
  unfold fsetF;rw [if_pos (by simpa using h)]
end
section
noncomputable abbrev OpsK (news : List (Addr × Obj)) (ys : List Str) (h₀ : Heap) (L : Addr) (m : Str → Option Value) (s : Shared) (Q : Value → Shared → Prop) : Prop :=
  ∀ (D : Addr) (vs : List Value) (n : Nat) (h' : Heap) (tk' : Nat),StrsAre vs ys → Fr h₀ L h' m → News h₀ L h' ((D,listOf vs.toArray n) :: news) → Q (.ref D) { s with heap := h',toks := tk' }
open PyProof.Rows.KTD in
theorem place_forms : (insL.all fun p=>(placeF p.1 == (formD p.2 == Str.ofString "S")) || (formD p.2 == Str.ofString "I")) = true := by kernel_rfl
open PyProof.Rows.KTD in
theorem all_at {κ δ : Type} [DecidableEq κ] {k : κ} {P : κ → δ → Bool} {D : List (κ × δ)} {d : δ} (hp : (D.all fun p=>P p.1 p.2) = true) (h : datumAt k D = some d) : P k d = true := by
  induction D with
  | nil=>simp [datumAt] at h
  | cons p D ih =>
    have h : (if decide (k = p.1) = true then some p.2 else datumAt k D) = some d := h
    rw [List.all_cons,Bool.and_eq_true] at hp
    by_cases e : k = p.1
    · rw [if_pos (decide_eq_true e)] at h;cases h;rw [e];exact hp.1
    · rw [if_neg (by simp [e])] at h;exact ih hp.2 h
open PyProof.Rows.KTD in
theorem place_of (n f : Str) (h : inKeys n insL = true) (hf : formF n = f) (hI : (f == Str.ofString "I") = false) : placeF n = (f == Str.ofString "S") := by
  have h2 := isSome_datumAt (k := n) (D := insL)
  rw [h] at h2
  obtain ⟨d,hd⟩ := Option.isSome_iff_exists.mp h2
  have e : formF n = formD d := by unfold formF;rw [hd]
  have := all_at (P := fun k d=>(placeF k == (formD d == Str.ofString "S")) || (formD d == Str.ofString "I")) place_forms hd
  rw [← hf,e] at hI
  rw [hI,Bool.or_false,beq_iff_eq] at this
  rw [this,← hf,e]
theorem sgn_range {v : Int} {k : Nat} {a : Int} (h : (2 : Int) ^ k = a) (h2 : (2 : Int) ^ (k - 1) * 2 = a) (ha : 0 < a ∧ a ≤ 4194304) : -2147483648 ≤ sgn v k ∧ sgn v k < 2147483648 := by
  have h0 := Int.emod_nonneg v (b := a) (by omega)
  have h1 := Int.emod_lt_of_pos v (b := a) (by omega)
  unfold sgn
  rw [h]
  split <;> omega
theorem immI_range (v : Int) : -2147483648 ≤ immI v ∧ immI v < 2147483648 := sgn_range (a := 4096) rfl rfl (by decide)
theorem immS_range (v : Int) : -2147483648 ≤ immS v ∧ immS v < 2147483648 := sgn_range (a := 4096) rfl rfl (by decide)
theorem immB_range (v : Int) : -2147483648 ≤ immB v ∧ immB v < 2147483648 := sgn_range (a := 8192) rfl rfl (by decide)
theorem immJ_range (v : Int) : -2147483648 ≤ immJ v ∧ immJ v < 2147483648 := sgn_range (a := 2097152) rfl rfl (by decide)
theorem immH_range (v : Int) : 0 ≤ immH v ∧ immH v < 32 := by unfold immH;omega
theorem immF_range (v : Int) : 0 ≤ immF v ∧ immF v < 256 := by unfold immF;omega
theorem immU_range (v : Int) (h : 0 ≤ v ∧ v < 2 ^ 32) : 0 ≤ immU v ∧ immU v < 2147483648 := by unfold immU;omega
theorem immF_high (v : Int) : 0 ≤ (immF v).fdiv (2 ^ Int.toNat 4) ∧ (immF v).fdiv (2 ^ Int.toNat 4) < 16 := by
  rw [fd];have := immF_range v
  show 0 ≤ immF v / 2 ^ 4 ∧ immF v / 2 ^ 4 < 16
  omega
theorem immF_low (v : Int) : 0 ≤ Builtin.bitAnd (immF v) 15 ∧ Builtin.bitAnd (immF v) 15 < 16 := by
  rw [bitAnd_m4];omega
theorem of_len (s : String) : (Str.ofString s).length = s.toList.length := by
  show (Str.ofString s).cps.size = _
  rw [← Array.length_toList (xs := (Str.ofString s).cps),signs_ofString,List.length_map]
theorem int_len {n : Int} (h : -2147483648 ≤ n) (h' : n < 2147483648) : (Str.ofString (toString n)).length ≤ 11 := by
  cases n with
  | ofNat m=>exact Nat.le_trans (PySem.W.KT.len_num (Int.natCast_nonneg m) (by omega)) (by decide)
  | negSucc m =>
    have e := PySem.W.KT.len_num (n := ((m + 1 : Nat) : Int)) (Int.natCast_nonneg _) (by omega)
    rw [of_len] at e ⊢
    show ("-" ++ Nat.repr (m + 1)).toList.length ≤ 11
    rw [String.toList_append,List.length_append]
    have e : (Nat.repr (m + 1)).toList.length ≤ 10 := e
    have e2 : "-".toList.length = 1 := rfl
    omega
theorem regF_len (i : Int) : (regF i).length ≤ 4 := by
  unfold regF
  have : ∀ x ∈ regsL,x.length ≤ 4 := by decide
  rw [List.getD_eq_getElem?_getD]
  cases e : regsL[i.toNat]? with
  | none=>exact Nat.zero_le _
  | some x=>exact this x (List.mem_of_getElem? e)
theorem app_len {x y : Str} {a b : Nat} (h1 : x.length ≤ a) (h2 : y.length ≤ b) : (x ++ y).length ≤ a + b := PySem.W.KT.len_app h1 h2
theorem add_strB {prog : Program} {w : World} {A : Around} {E : Value → Shared → Prop} {s : Shared} {t u : Tok} {Q : Value → Shared → Prop} {x y : Str} {a b : Nat} (h1 : x.length ≤ a) (h2 : y.length ≤ b) (hz : a + b ≤ 1048576)
    (h : ∀ t' tk,Q (.str (x ++ y) t') { s with toks := tk }) : wpAny (model prog w) A (binaryOp .Add (.str x t) (.str y u)) Q E s :=
  PyProof.Rows.add_str h (by rw [sizeLine_eq];omega)
theorem join_ops {prog : Program} {w : World} {A : Around} {E : Value → Shared → Prop} {s : Shared} {t : Tok} {Q : Value → Shared → Prop} {h₀ : Heap} {L D : Addr} {news : List (Addr × Obj)} {vs : List Value} {ys : List Str} {n : Nat} {x : Str}
    (N : News h₀ L s.heap news) (hm : (D,listOf vs.toArray n) ∈ news) (hy : StrsAre vs ys) (hx : x.length ≤ 8) (hl : ys.length ≤ 8) (hw : (ys.map (·.length)).sum ≤ 4096)
    (h : ∀ t' k,Q (.str (Txt.join x ys) t') { s with toks := k }) : wpAny (model prog w) A (call (.builtin "str.join") [.str x t,.ref D]) Q E s :=
  join_listW (News.isList N hm) (by rw [List.toList_toArray];exact hy) (by omega) (by omega) h
end
section
noncomputable def opsF (v : Int) : List Str :=
  if formF (nameF v) = Str.ofString "R" then [regF (fldF v 7),regF (fldF v 15),regF (fldF v 20)]
  else if formF (nameF v) = Str.ofString "I" then (if placeF (nameF v) = true then [regF (fldF v 7),Str.ofString (toString (immI v)) ++ Str.ofString "(" ++ regF (fldF v 15) ++ Str.ofString ")"] else [regF (fldF v 7),regF (fldF v 15),Str.ofString (toString (immI v))])
  else if formF (nameF v) = Str.ofString "H" then [regF (fldF v 7),regF (fldF v 15),Str.ofString (toString (immH v))]
  else if formF (nameF v) = Str.ofString "S" then [regF (fldF v 20),Str.ofString (toString (immS v)) ++ Str.ofString "(" ++ regF (fldF v 15) ++ Str.ofString ")"]
  else if formF (nameF v) = Str.ofString "B" then [regF (fldF v 15),regF (fldF v 20),Str.ofString (toString (immB v))]
  else if formF (nameF v) = Str.ofString "U" then [regF (fldF v 7),Str.ofString (toString (immU v))]
  else if formF (nameF v) = Str.ofString "J" then [regF (fldF v 7),Str.ofString (toString (immJ v))]
  else if formF (nameF v) = Str.ofString "F" then [fsetF ((immF v).fdiv (2 ^ Int.toNat 4)),fsetF (Builtin.bitAnd (immF v) 15)]
  else []
noncomputable def disF (v : Int) : Str :=
  if nameF v = Str.ofString "" then Str.ofString ".word 0x" ++ hexF v
  else if opsF v = [] then nameF v
  else nameF v ++ Str.ofString " " ++ Txt.join (Str.ofString ", ") (opsF v)
theorem fset_len (b : Int) : (fsetF b).length ≤ 4 := by
  unfold fsetF
  split
  · decide
  · have h := StrLaws.join_length_le (Str.ofString "") (fbF b)
    rw [show Txt.join (Str.ofString "") (fbF b) = Str.join (Str.ofString "") (fbF b) from eq_of_beq (join_plain_closes _ _)]
    have h1 := fb_weight b
    have h2 : (Str.ofString "").length = 0 := rfl
    rw [h2,Nat.mul_zero] at h
    omega
theorem ops_weight (v : Int) (h : 0 ≤ v ∧ v < 2 ^ 32) : (opsF v).length ≤ 8 ∧ ((opsF v).map (·.length)).sum ≤ 64 := by
  have i1 := int_len (immI_range v).1 (immI_range v).2
  have i2 := int_len (immS_range v).1 (immS_range v).2
  have i3 := int_len (immB_range v).1 (immB_range v).2
  have i4 := int_len (immJ_range v).1 (immJ_range v).2
  have i5 := int_len (n := immH v) (by have := immH_range v;omega) (by have := immH_range v;omega)
  have i6 := int_len (n := immU v) (by have := immU_range v h;omega) (by have := immU_range v h;omega)
  have r7 := regF_len (fldF v 7)
  have r15 := regF_len (fldF v 15)
  have r20 := regF_len (fldF v 20)
  have f1 := fset_len ((immF v).fdiv (2 ^ Int.toNat 4))
  have f2 := fset_len (Builtin.bitAnd (immF v) 15)
  have l1 : (Str.ofString "(").length = 1 := rfl
  have l2 : (Str.ofString ")").length = 1 := rfl
  unfold opsF
  repeat' split
  all_goals simp only [List.map_cons,List.map_nil,List.sum_cons,List.sum_nil,List.length_cons,List.length_nil,PySem.Str.length_append,l1,l2]
  all_goals omega
theorem name_len (v : Int) (h : nameF v ≠ Str.ofString "") : (nameF v).length ≤ 8 := by
  have hk := ins_name v h
  have h2 := PyProof.Rows.KTD.isSome_datumAt (k := nameF v) (D := insL)
  rw [hk] at h2
  obtain ⟨d,hd⟩ := Option.isSome_iff_exists.mp h2
  have := all_at (P := fun k _=>decide (k.length ≤ 8)) (D := insL) (by kernel_rfl) hd
  simpa using this
theorem hexF_len (v : Int) : (hexF v).length = 8 := rfl
theorem dis_weight {x : Str} {ys : List Str} (hx : x.length ≤ 2) : (Txt.join x ys).length ≤ 2 * ys.length + (ys.map (·.length)).sum := by
  have e := StrLaws.join_length_le x ys
  rw [show Txt.join x ys = Str.join x ys from eq_of_beq (join_plain_closes x ys)]
  have : ys.length * x.length ≤ ys.length * 2 := Nat.mul_le_mul (Nat.le_refl _) hx
  omega
theorem dis_join {v : Int} (h : 0 ≤ v ∧ v < 2 ^ 32) : (Txt.join (Str.ofString ", ") (opsF v)).length ≤ 80 := by
  have e := dis_weight (x := Str.ofString ", ") (ys := opsF v) (by decide)
  have := ops_weight v h
  omega
theorem add_strC {prog : Program} {w : World} {A : Around} {E : Value → Shared → Prop} {s : Shared} {t u : Tok} {Q : Value → Shared → Prop} {x y : Str} (hz : x.length + y.length ≤ 1048576)
    (h : ∀ t' tk,Q (.str (x ++ y) t') { s with toks := tk }) : wpAny (model prog w) A (binaryOp .Add (.str x t) (.str y u)) Q E s :=
  PyProof.Rows.add_str h (by rw [sizeLine_eq];omega)
theorem dis_e0 {v : Int} (h : nameF v = Str.ofString "") : Str.ofString ".word 0x" ++ hexF v = disF v := by unfold disF;rw [if_pos h]
theorem strs_nil {vs : List Value} {ys : List Str} (h : StrsAre vs ys) : vs = [] ↔ ys = [] := by cases h <;> simp
theorem dis_e1 {v : Int} {vs : List Value} (h : nameF v ≠ Str.ofString "") (hs : StrsAre vs (opsF v)) (e : vs = []) : nameF v = disF v := by unfold disF;rw [if_neg h,if_pos ((strs_nil hs).mp e)]
theorem dis_e2 {v : Int} {vs : List Value} (h : nameF v ≠ Str.ofString "") (hs : StrsAre vs (opsF v)) (e : ¬ vs = []) : nameF v ++ Str.ofString " " ++ Txt.join (Str.ofString ", ") (opsF v) = disF v := by unfold disF;rw [if_neg h,if_neg (fun q=>e ((strs_nil hs).mpr q))]
end
section
open PyProof.Rows.LCg PySem.Calls
section
variable {prog : Program} {w : World} {A : Around} {E : Value → Shared → Prop} {s : Shared} {h₀ : Heap} {L : Addr} {m : Str → Option Value} {env : Env}
inductive SrcByt (prog : Program) (w : World) (A : Around) (h₀ : Heap) (L : Addr) (m : Str → Option Value) (env : Env) (elt : Expr) (x : Str) (scope : Scope) (cl : List (Str × Addr)) (ks : List Int) (R : Nat → Value → Prop) (Q : Value → Shared → Prop) (xv : Value) (s₁ : Shared) : Prop
  | mk' (b t news : _) (h0 : xv = .bytes b t) (h1 : A.handled = none) (h2 : Fr h₀ L s₁.heap m) (h3 : News h₀ L s₁.heap news) (h4 : KBw.bInts b = ks) (h5 : ks.length ≤ 1000) (h6 : (∀ (g : Heap) (i : Nat),i < ks.length → Elt prog w A h₀ L m env elt x scope cl { s₁ with heap := g } (fun v=>∃ u,v = .int (ks.getD i 0) u ∧ 0 ≤ ks.getD i 0 ∧ ks.getD i 0 < 256) news (R i))) (h7 : (∀ (ys : List Value) (D : Addr) (h : Heap) (tk : Nat),ys.length = ks.length → (∀ i,i < ks.length → ∃ y,ys[i]? = some y ∧ R i y) → Fr h₀ L h m → News h₀ L h ((D,lst ys) :: news) → Off1 D news → Q (.ref D) { s₁ with heap := h,toks := tk })) : SrcByt prog w A h₀ L m env elt x scope cl ks R Q xv s₁
theorem comp_bytes {elt iter : Expr} {x : Str} {px : Pos} {scope : Scope} {cl : List (Str × Addr)} {pos : Pos} {ks : List Int} {R : Nat → Value → Prop} {Q : Value → Shared → Prop} (_F₀ : Fr h₀ L s.heap m)
    (hclos : closureFor scope env = pure cl) (hcell : ∀ y ∈ scope.names,y.2 ≠ .cell) (hkind : scope.kind = .function)
    (hnames : ∀ y ∈ scope.names,y.2 = .local → scope.names.lookup y.1 = some .local) (hx : scope.names.lookup x = some .local)
    (h : wpAny (model prog w) A (eval iter env) (SrcByt prog w A h₀ L m env elt x scope cl ks R Q) E s)
    (hs : ∀ x,foldedSetIterable iter env x = pure x := by intro _;rfl) :
    wpAny (model prog w) A (eval (.ListComp elt [⟨.Name x px,iter,[],0⟩] scope pos) env) Q E s := by
  rw [eval_ListComp]
  refine wpAny_comprehension_free (use := none) rfl hs hclos hkind hnames (wpAny_mono h (fun xv s₁ h₁=>?_) fun _ _ e=>e)
  obtain ⟨b,t,news,rfl,hh,F,N,hb,hsz,hel,hq⟩ := h₁
  have hl : b.size = ks.length := by rw [← hb,KBw.ints_length]
  have at_ : ∀ (i : Nat) (v : Value),(∃ c u,b[i]? = some c ∧ v = .int (c.toNat : Int) u) → ∃ u,v = .int (ks.getD i 0) u ∧ 0 ≤ ks.getD i 0 ∧ ks.getD i 0 < 256 := by
    rintro i v ⟨c,u,hc,rfl⟩
    have e : ks.getD i 0 = (c.toNat : Int) := by
      rw [← hb,List.getD_eq_getElem?_getD]
      unfold KBw.bInts
      rw [List.getElem?_map,Array.getElem?_toList,hc];rfl
    have := c.toNat_lt
    exact ⟨u,by rw [e],by omega,by omega⟩
  refine KBw.pyIter_bytes ?_
  refine block_U (KBw.walks hh s₁.heap.objs.size b t) (by rw [hl,sizeLine_eq];omega) (fun i h st=>by obtain ⟨o,e,_⟩ := st;exact ⟨o,e⟩) (S := fun _=>True) (fun i h h' o nw st e e' _ _ _=>?_) hcell hkind hx ⟨_,Heap.get?_push_size _ rfl,rfl,rfl⟩ (fun b hb=>?_)
    (F.keeps fun _ _ e=>Heap.get?_push_of_some _ e) (N.grown fun _ _ e=>Heap.get?_push_of_some _ e) (Nat.ne_of_lt F.ns.lt) (next_is_new F) (fun p hp=>Nat.ne_of_lt (Heap.lt_size (N p hp).1)) trivial
    (Fin := fun ys nw=>∀ D h tk,Fr h₀ L h m → News h₀ L h ((D,lst ys) :: nw) → Off1 D nw → Q (.ref D) { s₁ with heap := h,toks := tk })
    (rest_plain (n := b.size) (R := R) (P := fun i v=>∃ c u,b[i]? = some c ∧ v = .int (c.toNat : Int) u) trivial (fun i hi v I oI C oC D oD m₂ h tk E' hv=>hel _ i (by omega) v I oI C oC D oD m₂ h tk E' (at_ i v hv)) (fun ys hl' hy D h tk F' N' o1=>hq ys D h tk (by omega) (fun i hi=>hy i (by omega)) F' N' o1) _ 0 [] (by omega) rfl (fun j hj=>absurd hj (Nat.not_lt_zero _))) ?_
  · obtain ⟨o',q,r⟩ := st;rw [e] at q;cases q;exact ⟨o,e',r⟩
  · rw [List.mem_singleton.mp hb]
    show s₁.heap.objs.size < (s₁.heap.push _).objs.size
    rw [Heap.size_push];exact Nat.lt_succ_self _
  · intro D C h tk m' ys news' F' N' o1 hn' hC₀ hD₀ hCL hDL hCD offC fin
    refine ⟨m',hn',fun h'' hs''=>fin D h'' tk (F'.change hs'' hCL hC₀) (fun p hp=>?_) o1⟩
    refine ⟨hs''.extBut _ _ ?_ (N' p hp).1,(N' p hp).2⟩
    rcases List.mem_cons.mp hp with rfl | hp
    · exact Ne.symm hCD
    · exact offC p hp
end
end
section
open PyProof.Rows.LCg PySem.Calls
noncomputable def leftL (ks : List Int) : List Int := ks.drop (ks.length / 4 * 4)
noncomputable def figT (ks : List Int) : Str := Txt.join (Str.ofString ", ") ((List.range ks.length).map fun i=>Str.ofString (toString (ks.getD i 0)))
noncomputable def leftF (ks : List Int) : Str := if leftL ks = [] then Str.ofString "" else Str.ofString ".byte " ++ figT (leftL ks)
theorem left_clip (n : Nat) : clipAt n ((n : Int).fdiv 4 * 4) = n / 4 * 4 := by rw [wd_fdiv];unfold clipAt;omega
theorem left_cut {ks js : List Int} (h : js = (ks.drop (clipAt ks.length ((ks.length : Int).fdiv 4 * 4))).take (ks.length - clipAt ks.length ((ks.length : Int).fdiv 4 * 4))) : js = leftL ks := by
  rw [h,left_clip];unfold leftL;rw [List.take_of_length_le];rw [List.length_drop];exact Nat.le_refl _
theorem left_len (ks : List Int) : (leftL ks).length ≤ 3 := by unfold leftL;rw [List.length_drop];omega
theorem left_e1 {ks : List Int} (h : ((min (ks.length - clipAt ks.length ((ks.length : Int).fdiv 4 * 4)) (ks.length - clipAt ks.length ((ks.length : Int).fdiv 4 * 4)) : Nat) : Int) = 0) : Str.ofString "" = leftF ks := by
  unfold leftF;rw [if_pos]
  have e := left_clip ks.length
  have : (leftL ks).length = 0 := by unfold leftL;rw [List.length_drop];omega
  exact List.eq_nil_of_length_eq_zero this
theorem left_e2 {ks : List Int} (h : ((min (ks.length - clipAt ks.length ((ks.length : Int).fdiv 4 * 4)) (ks.length - clipAt ks.length ((ks.length : Int).fdiv 4 * 4)) : Nat) : Int) ≠ 0) : Str.ofString ".byte " ++ figT (leftL ks) = leftF ks := by
  unfold leftF;rw [if_neg]
  intro q
  have e := left_clip ks.length
  have : (leftL ks).length = 0 := by rw [q];rfl
  unfold leftL at this;rw [List.length_drop] at this;omega
theorem fig_sum {g : Nat → Int} (hg : ∀ i,0 ≤ g i ∧ g i < 256) : ∀ n,(((List.range n).map fun i=>Str.ofString (toString (g i))).map (·.length)).sum ≤ 11 * n
  | 0=>Nat.zero_le _
  | n + 1=>by
    rw [List.range_succ,List.map_append,List.map_append,List.sum_append]
    have h1 := fig_sum hg n
    have h2 := int_len (n := g n) (by have := hg n;omega) (by have := hg n;omega)
    simp only [List.map_cons,List.map_nil,List.sum_cons,List.sum_nil]
    omega
theorem fig_len {ks : List Int} (hg : ∀ i,0 ≤ ks.getD i 0 ∧ ks.getD i 0 < 256) (hl : ks.length ≤ 3) : (figT ks).length ≤ 60 := by
  unfold figT
  have e := dis_weight (x := Str.ofString ", ") (ys := (List.range ks.length).map fun i=>Str.ofString (toString (ks.getD i 0))) (by decide)
  have := fig_sum hg ks.length
  rw [List.length_map,List.length_range] at e
  omega
theorem left_in {B : Array UInt8} {ks : List Int} (h : KBw.bInts B = ks) : ∀ i,0 ≤ (leftL ks).getD i 0 ∧ (leftL ks).getD i 0 < 256 := by
  intro i
  by_cases hi : i < (leftL ks).length
  · have : (leftL ks).getD i 0 ∈ ks := by
      rw [List.getD_eq_getElem?_getD,List.getElem?_eq_getElem hi]
      exact List.mem_of_mem_drop (List.getElem_mem hi)
    rw [← h] at this
    rw [← h]
    exact KBw.ints_in this
  · rw [List.getD_eq_getElem?_getD,List.getElem?_eq_none (by omega)];decide
theorem join_fig {prog : Program} {w : World} {A : Around} {E : Value → Shared → Prop} {s : Shared} {t : Tok} {Q : Value → Shared → Prop} {h₀ : Heap} {L D : Addr} {news : List (Addr × Obj)} {ys : List Value} {ks : List Int}
    (N : News h₀ L s.heap news) (hm : (D,lst ys) ∈ news) (hg : ∀ i,0 ≤ ks.getD i 0 ∧ ks.getD i 0 < 256) (hl : ys.length = ks.length) (hn : ks.length ≤ 3) (hy : ∀ i,i < ks.length → ∃ y,ys[i]? = some y ∧ ∃ t,y = Value.str (Str.ofString (toString (ks.getD i 0))) t)
    (h : ∀ t' k,Q (.str (figT ks) t') { s with toks := k }) : wpAny (model prog w) A (call (.builtin "str.join") [.str (Str.ofString ", ") t,.ref D]) Q E s :=
  join_listW (News.isList N hm) (by rw [List.toList_toArray];exact strs_of_get hl hy) (by decide) (by have := fig_sum hg ks.length;rw [List.length_map,List.length_range];omega) h
end
section
section
variable {prog : Program} {w : World} {A : Around} {E : Value → Shared → Prop} {s : Shared} {env : Env} {h₀ : Heap}
noncomputable def StepE (h₀ : Heap) (L : Addr) (s : Shared) (I : Addr) (oI : Obj) (J : (Str → Option Value) → List (Addr × Obj) → Prop) (Q : Flow → Shared → Prop) (f : Flow) (s' : Shared) : Prop :=
  match f with
  | .ret v=>Q (.ret v) s'
  | .brk=>Q .next s'
  | _=>∃ h tk m n,s' = { s with heap := h,toks := tk } ∧ Fr h₀ L h m ∧ News h₀ L h ((I,oI) :: n) ∧ (∀ p ∈ n,p.1 ≠ I) ∧ J m n
theorem StepE.mk' {h₀ : Heap} {L : Addr} {s : Shared} {I : Addr} {oI : Obj} {J : (Str → Option Value) → List (Addr × Obj) → Prop} {Q : Flow → Shared → Prop} {s' : Shared} (h : Heap) (tk : Nat) (m : Str → Option Value) (n : List (Addr × Obj)) (e : s' = { s with heap := h,toks := tk }) (F : Fr h₀ L h m) (N : News h₀ L h ((I,oI) :: n)) (o : ∀ p ∈ n,p.1 ≠ I) (j : J m n) : StepE h₀ L s I oI J Q .next s' := ⟨h,tk,m,n,e,F,N,o,j⟩
inductive ForLst (prog : Program) (w : World) (A : Around) (h₀ : Heap) (env : Env) (target : Expr) (body : List Stmt) (Q : Flow → Shared → Prop) (E : Value → Shared → Prop) (xv : Value) (s₁ : Shared) : Prop
  | mk' (ax vs k m₀ news : _) (J : Nat → (Str → Option Value) → List (Addr × Obj) → Prop) (h0 : xv = .ref ax) (h1 : A.handled = none) (h2 : Fr h₀ env.locals s₁.heap m₀) (h3 : News h₀ env.locals s₁.heap news) (h4 : J 0 m₀ news) (h5 : (∀ i m n,J i m n → (ax,listOf (List.toArray vs) k) ∈ n)) (h6 : (∀ i v m₁ n₁ h₁ tk₁ I oI,vs[i]? = some v → J i m₁ n₁ → Fr h₀ env.locals h₁ m₁ → News h₀ env.locals h₁ ((I,oI) :: n₁) → (∀ p ∈ n₁,p.1 ≠ I) → wpAny (model prog w) A (assign target env v) (fun _ s₂=>wpAny (model prog w) A (execs body env) (StepE h₀ env.locals { s₁ with heap := h₁,toks := tk₁ } I oI (J (i + 1)) Q) E s₂) E { s₁ with heap := h₁,toks := tk₁ })) (h7 : (∀ h' tk m' n',Fr h₀ env.locals h' m' → News h₀ env.locals h' n' → J vs.length m' n' → Q .next { s₁ with heap := h',toks := tk })) : ForLst prog w A h₀ env target body Q E xv s₁
theorem for_made {x : Str} {px pos : Pos} {iter : Expr} {body : List Stmt} {Q : Flow → Shared → Prop} {m : Str → Option Value} (F₀ : Fr h₀ env.locals s.heap m)
    (h : wpAny (model prog w) A (eval iter env) (ForLst prog w A h₀ env (.Name x px) body Q E) E s)
    (hs : ∀ x,foldedSetIterable iter env x = pure x := by intro _;rfl) (hE : PassesOwn (model prog w) A env E := by passes_own) :
    wpAny (model prog w) A (exec (.For (.Name x px) iter body [] pos) env) Q E s := by
  refine For_turns F₀ (wpAny_mono h (fun xv s₁ h₁=>?_) fun _ _ e=>e) hs hE
  obtain ⟨ax,vs,k,m₀,news,J,rfl,hh,F,N,h0,hm,step,fin⟩ := h₁
  have hax := N _ (hm 0 m₀ news h0)
  have hl : s₁.heap.IsList ax vs.toArray := ⟨_,hax.1,rfl,_,rfl⟩
  have hlt : ax < s₁.heap.objs.size := Heap.lt_size hax.1
  have hne : ax ≠ s₁.heap.objs.size := Nat.ne_of_lt hlt
  refine wpAny_pyIter_list hl ?_
  have hI₀ : h₀.get? s₁.heap.objs.size = none := next_is_new F
  refine ⟨s₁.heap.objs.size,_,_,_,_,_,_,m₀,news,J,rfl,KTurns.ofWalks (Walks.list hh s₁.heap.objs.size ax hne vs.toArray) (fun i v s Q E st q=>letGo_listiter st.1 q),?_,?_,?_,⟨⟨_,Heap.get?_push_size _ rfl,rfl,rfl⟩,hl.push _⟩,F.push _,fun p hp=>⟨Heap.get?_push_of_some _ (N p hp).1,(N p hp).2⟩,h0,?_,?_⟩
  · intro hI
    rcases List.mem_cons.mp hI with e | hI
    · exact absurd F.ns.lt (e ▸ Nat.lt_irrefl _)
    · exact hax.2.1 (List.mem_singleton.mp hI).symm
  · intro b hb
    rw [List.mem_singleton.mp hb];exact hI₀
  · intro p hp hb
    have := Heap.lt_size (N p hp).1
    rw [List.mem_singleton.mp hb] at this
    exact Nat.lt_irrefl _ this
  · intro i v m₁ news₁ h₁ tk₁ own hi hv hJ hnw hsub hown hall st F₁ N₁
    obtain ⟨⟨oI,hoI,_⟩,_⟩ := st
    have hIin : (s₁.heap.objs.size,oI) ∈ own := hall _ (List.mem_cons_self ..) hI₀ oI hoI
    have hv' : vs[i]? = some v := by simpa using hv
    have N₂ : News h₀ env.locals h₁ ((s₁.heap.objs.size,oI) :: news₁) := fun p hp=>by
      rcases List.mem_cons.mp hp with rfl | hp
      · exact N₁ _ (List.mem_append_left _ hIin)
      · exact N₁ _ (List.mem_append_right _ hp)
    have hnI : ∀ p ∈ news₁,p.1 ≠ s₁.heap.objs.size := fun p hp e=>hnw p hp (by rw [e];exact List.mem_singleton.mpr rfl)
    refine wpAny_mono (step i v m₁ news₁ h₁ tk₁ _ oI hv' hJ F₁ N₂ hnI) (fun _ s₂ h₂=>wpAny_mono h₂ (fun f s₃ h₃=>?_) fun _ _ e=>e) fun _ _ e=>e
    have up : ∀ (f : Flow),(∃ h tk m n,s₃ = { s₁ with heap := h,toks := tk } ∧ Fr h₀ env.locals h m ∧ News h₀ env.locals h ((s₁.heap.objs.size,oI) :: n) ∧ (∀ p ∈ n,p.1 ≠ s₁.heap.objs.size) ∧ J (i + 1) m n) →
        ∃ h tk m n,s₃ = { s₁ with heap := h,toks := tk } ∧ Fr h₀ env.locals h m ∧ News h₀ env.locals h (own ++ n) ∧ (∀ p ∈ n,p.1 ∉ [s₁.heap.objs.size]) ∧ J (i + 1) m n := by
      rintro f ⟨h,tk,m,n,rfl,F₃,N₃,ha,hj⟩
      refine ⟨h,tk,m,n,rfl,F₃,fun p hp=>?_,fun p hp hb=>ha p hp (List.mem_singleton.mp hb),hj⟩
      rcases List.mem_append.mp hp with hp | hp
      · have h1 := hown p hp
        rcases List.mem_cons.mp (hsub p hp) with e | e
        · have e2 : p = (s₁.heap.objs.size,oI) := by
            rw [e,hoI] at h1
            exact Prod.ext e (Option.some.inj h1).symm
          rw [e2];exact N₃ _ (List.mem_cons_self ..)
        · have e := List.mem_singleton.mp e
          have h3 := (N₁ _ (List.mem_append_right _ (hm i m₁ news₁ hJ))).1
          have e2 : p = (ax,listOf vs.toArray k) := by
            rw [e,h3] at h1
            exact Prod.ext e (Option.some.inj h1).symm
          rw [e2];exact N₃ _ (List.mem_cons_of_mem _ (hm (i + 1) m n hj))
      · exact N₃ _ (List.mem_cons_of_mem _ hp)
    cases f with
    | ret v=>exact LoopStepV.ret h₃
    | brk=>exact LoopStepV.brk h₃
    | cont=>exact LoopStepV.cont ⟨rfl,up .next h₃⟩
    | next=>exact LoopStepV.next ⟨rfl,up .next h₃⟩
  · intro h' tk m' news' F' N' _ hJ
    exact fin h' tk m' news' F' N' (by simpa using hJ)
end
end
section
noncomputable def srcRows (ks : List Int) : List Str := Str.ofString "    .text" :: ((wordsF ks).map fun v=>Str.ofString "    " ++ disF v) ++ (if leftF ks = Str.ofString "" then [] else [Str.ofString "    " ++ leftF ks])
noncomputable def srcF (ks : List Int) : Str := Txt.join (Str.ofString "\n") (srcRows ks) ++ Str.ofString "\n"
theorem disF_len (v : Int) (h : 0 ≤ v ∧ v < 2 ^ 32) : (disF v).length ≤ 100 := by
  unfold disF
  split
  · rw [PySem.Str.length_append,hexF_len];exact Nat.le_of_ble_eq_true rfl
  · rename_i hn
    have h1 := name_len v hn
    split
    · omega
    · have h2 := dis_join h
      have h3 : (Str.ofString " ").length = 1 := rfl
      rw [PySem.Str.length_append,PySem.Str.length_append];omega
theorem int_at {vs : List Value} {ws : List Int} (h : IntsAre vs ws) (i : Nat) (v : Value) (e : vs[i]? = some v) : ∃ t,v = .int (ws.getD i 0) t ∧ ws[i]? = some (ws.getD i 0) := by
  obtain ⟨n,t,rfl,e2⟩ := h.at i v e
  have e3 : ws.getD i 0 = n := by rw [List.getD_eq_getElem?_getD,e2];rfl
  exact ⟨t,by rw [e3],by rw [e3];exact e2⟩
theorem strs_snocK {y : Str} {t : Tok} {vs : List Value} {ys : List Str} (h : StrsAre vs ys) : StrsAre (vs ++ [.str y t]) (ys ++ [y]) := h.append' (.cons _ _ .nil)
noncomputable def srcJ (m₀ : Str → Option Value) (D : Addr) (ys : List Value) (R : Addr) (news : List (Addr × Obj)) (ws : List Int) (i : Nat) (m : Str → Option Value) (n : List (Addr × Obj)) : Prop :=
  ∃ o rs k,m = (fun y=>if y = Str.ofString "word" then o else m₀ y) ∧ n = (D,PyProof.Rows.LCg.lst ys) :: (R,listOf (List.toArray rs) k) :: news ∧ StrsAre rs (Str.ofString "    .text" :: ((ws.take i).map fun v=>Str.ofString "    " ++ disF v))
theorem srcJ.opI {m₀ : Str → Option Value} {D : Addr} {ys : List Value} {R : Addr} {news : List (Addr × Obj)} {ws : List Int} {i : Nat} {m : Str → Option Value} {n : List (Addr × Obj)} {P : Prop} {h9 g9 : Heap} {L9 : Addr} {I9 : Addr} {oI9 : Obj} (H : srcJ m₀ D ys R news ws i m n) (F9 : Fr h9 L9 g9 m) (N9 : News h9 L9 g9 ((I9,oI9) :: n)) (off9 : ∀ p ∈ n,p.1 ≠ I9) (kk9 : ∀ o rs k,(StrsAre rs (Str.ofString "    .text" :: ((ws.take i).map fun v=>Str.ofString "    " ++ disF v))) → Fr h9 L9 g9 ((fun y=>if y = Str.ofString "word" then o else m₀ y)) → News h9 L9 g9 ((I9,oI9) :: (D,PyProof.Rows.LCg.lst ys) :: (R,listOf (List.toArray rs) k) :: news) → (∀ p ∈ ((D,PyProof.Rows.LCg.lst ys) :: (R,listOf (List.toArray rs) k) :: news),p.1 ≠ I9) → P) : P := by
  obtain ⟨o,rs,k,em,en,r1⟩ := H
  subst em
  subst en
  exact kk9 o rs k r1 F9 N9 off9
theorem srcJ.opZ {m₀ : Str → Option Value} {D : Addr} {ys : List Value} {R : Addr} {news : List (Addr × Obj)} {ws : List Int} {i : Nat} {m : Str → Option Value} {n : List (Addr × Obj)} {P : Prop} {h9 g9 : Heap} {L9 : Addr} (H : srcJ m₀ D ys R news ws i m n) (F9 : Fr h9 L9 g9 m) (N9 : News h9 L9 g9 (n)) (kk9 : ∀ o rs k,(StrsAre rs (Str.ofString "    .text" :: ((ws.take i).map fun v=>Str.ofString "    " ++ disF v))) → Fr h9 L9 g9 ((fun y=>if y = Str.ofString "word" then o else m₀ y)) → News h9 L9 g9 ((D,PyProof.Rows.LCg.lst ys) :: (R,listOf (List.toArray rs) k) :: news) → P) : P := by
  obtain ⟨o,rs,k,em,en,r1⟩ := H
  subst em
  subst en
  exact kk9 o rs k r1 F9 N9
theorem src_start {m₀ : Str → Option Value} {D R : Addr} {ys : List Value} {t : Tok} {k : Nat} {news : List (Addr × Obj)} {ws : List Int} (hm : m₀ (Str.ofString "word") = none) : srcJ m₀ D ys R news ws 0 m₀ ((D,PyProof.Rows.LCg.lst ys) :: (R,listOf (List.toArray [.str (Str.ofString "    .text") t]) k) :: news) :=
  ⟨none,_,_,funext fun y=>by by_cases h : y = Str.ofString "word" <;> simp [h,hm],rfl,.cons _ _ .nil⟩
theorem src_next {m₀ : Str → Option Value} {D R : Addr} {ys rs : List Value} {t : Tok} {k : Nat} {news : List (Addr × Obj)} {ws : List Int} {o u : Option Value} {i : Nat} {v : Int} (g : ws[i]? = some v) (hs : StrsAre rs (Str.ofString "    .text" :: ((ws.take i).map fun v=>Str.ofString "    " ++ disF v))) :
    srcJ m₀ D ys R news ws (i + 1) (fun y=>if y = Str.ofString "word" then u else if y = Str.ofString "word" then o else m₀ y) ((D,PyProof.Rows.LCg.lst ys) :: (R,listOf (List.toArray (rs ++ [.str (Str.ofString "    " ++ disF v) t])) k) :: news) :=
  ⟨u,_,_,funext fun y=>by by_cases h : y = Str.ofString "word" <;> simp [h],rfl,by rw [List.take_add_one,g,List.map_append,← List.cons_append];exact strs_snocK hs⟩
theorem off_upd {a : Addr × Obj} {R I : Addr} {o o' : Obj} {n : List (Addr × Obj)} (h : ∀ p ∈ a :: (R,o) :: n,p.1 ≠ I) : ∀ p ∈ a :: (R,o') :: n,p.1 ≠ I := by
  intro p hp
  cases hp with
  | head=>exact h _ (.head _)
  | tail _ hp=>cases hp with
    | head=>exact h (R,o) (.tail _ (.head _))
    | tail _ hp=>exact h _ (.tail _ (.tail _ hp))
theorem append_mine {prog : Program} {w : World} {A : Around} {E : Value → Shared → Prop} {s : Shared} {h₀ : Heap} {L R : Addr} {m : Str → Option Value} {news news' : List (Addr × Obj)} {rs : List Value} {k : Nat} {v : Value} {Q : Value → Shared → Prop} (F : Fr h₀ L s.heap m) (N : News h₀ L s.heap news) (hz : rs.length ≤ 1000)
    (U : Upd R (listOf (List.toArray rs) k) (listOf (List.toArray (rs ++ [v])) (k + 1)) news news') (h : ∀ h',Fr h₀ L h' m → News h₀ L h' news' → Q .none { s with heap := h' }) : wpAny (model prog w) A (call (.builtin "list.append") [.ref R,v]) Q E s :=
  append_K F N (by rw [List.push_toArray];exact U) h (by rw [sizeLine_eq];simp;omega)
theorem leftF_len {B : Array UInt8} {ks : List Int} (h : KBw.bInts B = ks) : (leftF ks).length ≤ 70 := by
  unfold leftF
  split
  · decide
  · have := fig_len (left_in h) (left_len ks)
    have e : (Str.ofString ".byte ").length = 6 := rfl
    rw [PySem.Str.length_append];omega
theorem sum_le {l : List Str} {b : Nat} (h : ∀ y ∈ l,y.length ≤ b) : (l.map (·.length)).sum ≤ b * l.length := by
  induction l with
  | nil=>exact Nat.zero_le _
  | cons x l ih =>
    have h1 := h x (.head _)
    have h2 := ih fun y hy=>h y (.tail _ hy)
    rw [List.map_cons,List.sum_cons,List.length_cons,Nat.mul_succ];omega
theorem rows_len {l : List Str} (h : ∀ y ∈ l,y.length ≤ 200) (hl : l.length ≤ 200) {x : Str} (hx : x.length ≤ 2) : (Txt.join x l).length ≤ 40400 := by
  have h1 := dis_weight (ys := l) hx
  have h2 := sum_le h
  have h3 : 200 * l.length ≤ 200 * 200 := Nat.mul_le_mul (Nat.le_refl _) hl
  omega
theorem join_rows {prog : Program} {w : World} {A : Around} {E : Value → Shared → Prop} {s : Shared} {t : Tok} {Q : Value → Shared → Prop} {h₀ : Heap} {L D : Addr} {news : List (Addr × Obj)} {vs : List Value} {l : List Str} {k : Nat} {x : Str}
    (N : News h₀ L s.heap news) (hm : (D,listOf (List.toArray vs) k) ∈ news) (hs : StrsAre vs l) (hx : x.length ≤ 2) (hb : (∀ y ∈ l,y.length ≤ 200) ∧ l.length ≤ 200)
    (h : (Txt.join x l).length ≤ 40400 → ∀ t' k,Q (.str (Txt.join x l) t') { s with toks := k }) : wpAny (model prog w) A (call (.builtin "str.join") [.str x t,.ref D]) Q E s :=
  join_listW (News.isList N hm) (by rw [List.toList_toArray];exact hs) (by omega) (by
    have h2 := sum_le hb.1
    have h3 : 200 * l.length ≤ 200 * 200 := Nat.mul_le_mul (Nat.le_refl _) hb.2
    omega) (h (rows_len hb.1 hb.2 hx))
theorem words_len (ks : List Int) (h : ks.length ≤ 100) : (wordsF ks).length ≤ 25 := by unfold wordsF;rw [List.length_map,List.length_range];omega
theorem src_b1 {ks : List Int} {n : Nat} (hk : ks.length ≤ 100) (hW : ∀ v ∈ wordsF ks,0 ≤ v ∧ v < 2 ^ 32) : (∀ y ∈ Str.ofString "    .text" :: (((wordsF ks).take n).map fun v=>Str.ofString "    " ++ disF v),y.length ≤ 200) ∧ (Str.ofString "    .text" :: (((wordsF ks).take n).map fun v=>Str.ofString "    " ++ disF v)).length ≤ 28 := by
  refine ⟨fun y hy=>?_,?_⟩
  · rcases List.mem_cons.mp hy with rfl | hy
    · decide
    · obtain ⟨v,hv,rfl⟩ := List.mem_map.mp hy
      have h1 := disF_len v (hW v (List.mem_of_mem_take hv))
      have h2 : (Str.ofString "    ").length = 4 := rfl
      rw [PySem.Str.length_append];omega
  · have := words_len ks hk
    rw [List.length_cons,List.length_map,List.length_take];omega
theorem src_b2 {l : List Str} {y : Str} (h : (∀ y ∈ l,y.length ≤ 200) ∧ l.length ≤ 28) (hy : y.length ≤ 200) : (∀ z ∈ l ++ [y],z.length ≤ 200) ∧ (l ++ [y]).length ≤ 200 := by
  refine ⟨fun z hz=>?_,by rw [List.length_append,List.length_singleton];omega⟩
  rcases List.mem_append.mp hz with hz | hz
  · exact h.1 z hz
  · rw [List.mem_singleton.mp hz];exact hy
theorem src_e1 {ks : List Int} {ys : List Value} (ia : IntsAre ys (wordsF ks)) (h : (leftF ks != Str.ofString "") = true) :
    Txt.join (Str.ofString "\n") ((Str.ofString "    .text" :: (((wordsF ks).take ys.length).map fun v=>Str.ofString "    " ++ disF v)) ++ [Str.ofString "    " ++ leftF ks]) ++ Str.ofString "\n" = srcF ks := by
  unfold srcF srcRows
  rw [if_neg (by simpa using h),IntsAre.length ia,List.take_length]
theorem src_e2 {ks : List Int} {ys : List Value} (ia : IntsAre ys (wordsF ks)) (h : (leftF ks != Str.ofString "") = false) :
    Txt.join (Str.ofString "\n") (Str.ofString "    .text" :: (((wordsF ks).take ys.length).map fun v=>Str.ofString "    " ++ disF v)) ++ Str.ofString "\n" = srcF ks := by
  unfold srcF srcRows
  rw [if_pos (by simpa using h),IntsAre.length ia,List.take_length,List.append_nil]
end
section
noncomputable def tgtF (v at' : Int) : Int :=
  if nameF v = Str.ofString "" then -1
  else if formF (nameF v) = Str.ofString "B" then (at' + immB v) % 4294967296
  else if formF (nameF v) = Str.ofString "J" then (at' + immJ v) % 4294967296
  else -1
theorem mask32 (x : Int) : Builtin.bitAnd x 4294967295 = x % 4294967296 := by
  rw [show (4294967295 : Int) = 2 ^ 32 - 1 from rfl,kbt_mask];rfl
theorem tgtE0 {v a : Int} (h : nameF v = Str.ofString "") : -1 = tgtF v a := by unfold tgtF;rw [if_pos h]
theorem tgtE1 {v a : Int} (hn : nameF v ≠ Str.ofString "") (h : formF (nameF v) ≠ Str.ofString "B" ∧ formF (nameF v) ≠ Str.ofString "J") : -1 = tgtF v a := by unfold tgtF;rw [if_neg hn,if_neg h.1,if_neg h.2]
theorem tgtE2 {v a : Int} (hn : nameF v ≠ Str.ofString "") (h : formF (nameF v) = Str.ofString "B") : Builtin.bitAnd (a + immB v) 4294967295 = tgtF v a := by unfold tgtF;rw [if_neg hn,if_pos h,mask32]
theorem tgtE3 {v a : Int} (hn : nameF v ≠ Str.ofString "") (h : formF (nameF v) = Str.ofString "J") : Builtin.bitAnd (a + immJ v) 4294967295 = tgtF v a := by unfold tgtF;rw [if_neg hn,h,if_neg (by decide),if_pos rfl,mask32]
theorem kv_B {v : Int} {l : List (Str × Value)} (h : kvAll v l) (e : formF (nameF v) = Str.ofString "B") : kvB v l := by
  rcases h with h | h | h | h | h | h | h | h | h <;> first | exact h.2 | exact absurd (h.1.symm.trans e) (by decide)
theorem kv_J {v : Int} {l : List (Str × Value)} (h : kvAll v l) (e : formF (nameF v) = Str.ofString "J") : kvJ v l := by
  rcases h with h | h | h | h | h | h | h | h | h <;> first | exact h.2 | exact absurd (h.1.symm.trans e) (by decide)
end
section
open PySem.Calls
inductive PV
  | i (n : Int) | s (x : Str) | b (c : Bool) | v (x : Value)
noncomputable def PV.Is : PV → Value → Prop
  | .i n,x=>∃ t,x = .int n t
  | .s y,x=>∃ t,x = .str y t
  | .b c,x=>x = .bool c
  | .v y,x=>x = y
noncomputable abbrev Lo := List (Str × PV)
noncomputable def Locs (ρ : Lo) (m : Str → Option Value) : Prop := ∀ x v,ρ.lookup x = some v → ∃ y,m x = some y ∧ v.Is y
structure Fk where
  cn : Str
  cs : Scope
  a : Addr
  ccd : Value
structure G where
  w : World
  mean : ExcName → Option Value
  mg : Str → Option Value
  mb : Str → Option Value
  f : Fk
  D : Nat
  N : List (Addr × Obj)
  ρ : Lo
noncomputable abbrev PRG : Program := PySem.Challenge.rw_nm0011_01.row.prog
structure Rn where
  dp : Nat
  un : Nat
  gd : Option (List Code)
  cl : List (Str × Addr)
  outer : List Env
  A₀ : Around
  base : Heap
  h₀ : Heap
  L : Addr
structure Ok (g : G) (c : Rn) : Prop where
  B : Below c.A₀ c.base c.outer c.h₀
  X : (hd.heap_39 g.w.params).In c.h₀
  T : Top hd.view_39 looseL g.mean g.mg g.mb c.h₀
  k : g.f.cs.kind = .function
  d : c.dp + g.D < recursionLimit
  u : c.un + 8 * g.D < cLine
noncomputable abbrev Rn.A (c : Rn) (f : Fk) : Around := ktrTop c.dp c.un c.gd f.cn f.cs c.L f.a f.ccd c.cl c.outer
noncomputable abbrev Rn.env (c : Rn) (f : Fk) : Env := envX f.cn f.cs c.L f.a f.ccd c.cl
noncomputable def Lv (g : G) (c : Rn) (m : Str → Option Value) (s : Shared) (P : Value → Prop) (Q : Value → Shared → Prop) : Prop :=
  ∀ x h' tk',P x → Fr c.h₀ c.L h' m → News c.h₀ c.L h' g.N → Q x { s with heap := h',toks := tk' }
structure Ev (g : G) (e : Expr) (v : PV) : Prop where
  run : ∀ (c : Rn) (m : Str → Option Value) (s : Shared) (Q E : Value → Shared → Prop),Ok g c → Locs g.ρ m → Fr c.h₀ c.L s.heap m → News c.h₀ c.L s.heap g.N → Lv g c m s v.Is Q →
    wpAny (model PRG g.w) (c.A g.f) (eval e (c.env g.f)) Q E s
structure Te (g : G) (e : Expr) (b : Bool) : Prop where
  run : ∀ (c : Rn) (m : Str → Option Value) (s : Shared) (Q : Bool → Shared → Prop) (E : Value → Shared → Prop) (whole : Sem Value),Ok g c → Locs g.ρ m → Fr c.h₀ c.L s.heap m → News c.h₀ c.L s.heap g.N →
    whole = eval e (c.env g.f) → (∀ h' tk',Fr c.h₀ c.L h' m → News c.h₀ c.L h' g.N → Q b { s with heap := h',toks := tk' }) → wpAny (model PRG g.w) (c.A g.f) (isTrue e (c.env g.f) whole) Q E s
structure Cm (g : G) (op : CmpOp) (a b : PV) (r : Bool) : Prop where
  run : ∀ (c : Rn) (m : Str → Option Value) (s : Shared) (Q E : Value → Shared → Prop) (x y : Value),Ok g c → Fr c.h₀ c.L s.heap m → News c.h₀ c.L s.heap g.N → a.Is x → b.Is y → Q (.bool r) s → wpAny (model PRG g.w) (c.A g.f) (compareOp op x y) Q E s
structure Bn (op : Operator) (a b : PV) (r : PV) : Prop where
  run : ∀ (w : World) (A : Around) (s : Shared) (Q E : Value → Shared → Prop) (x y : Value),a.Is x → b.Is y → (∀ z tk,r.Is z → Q z { s with toks := tk }) → wpAny (model PRG w) A (binaryOp op x y) Q E s
structure Ex (g : G) (body : List Stmt) (r : PV) : Prop where
  run : ∀ (c : Rn) (m : Str → Option Value) (s : Shared) (Q : Flow → Shared → Prop) (E : Value → Shared → Prop),Ok g c → Locs g.ρ m → Fr c.h₀ c.L s.heap m → News c.h₀ c.L s.heap g.N →
    (∀ x h' tk' m',r.Is x → Fr c.h₀ c.L h' m' → News c.h₀ c.L h' g.N → Q (.ret x) { s with heap := h',toks := tk' }) → wpAny (model PRG g.w) (c.A g.f) (execs body (c.env g.f)) Q E s
noncomputable def Cp (w : World) (mean : ExcName → Option Value) (mg mb : Str → Option Value) (f : Addr) (D : Nat) (news : List (Addr × Obj)) (vs : List Value) (r : PV) : Prop :=
  ∀ (dp un : Nat) (gd : Option (List Code)) (cn : Str) (cs : Scope) (a : Addr) (ccd : Value) (cl : List (Str × Addr)) (outer : List Env) (A₀ : Around) (base h₀ : Heap) (L : Addr) (m : Str → Option Value) (s : Shared) (Q E : Value → Shared → Prop),
    Below A₀ base outer h₀ → Fr h₀ L s.heap m → (hd.heap_39 w.params).In h₀ → News h₀ L s.heap news → Top hd.view_39 looseL mean mg mb h₀ → cs.kind = .function →
    dp + D < recursionLimit → un + 8 * D < cLine → (∀ x h' tk',r.Is x → Fr h₀ L h' m → News h₀ L h' news → Q x { s with heap := h',toks := tk' }) →
      wpAny (model PRG w) (ktrTop dp un gd cn cs L a ccd cl outer) (call (.ref f) vs) Q E s
section
variable {w : World} {mean : ExcName → Option Value} {mg mb : Str → Option Value} {f : Addr} {D : Nat} {news : List (Addr × Obj)} {pre : Prop} {vs : List Value}
theorem Cp.ofI {n : Int} (C : Cb w mean mg mb f D news pre vs (fun t=>.int n t)) (h : pre) : Cp w mean mg mb f D news vs (.i n) :=
  fun _ _ _ _ _ _ _ _ _ _ _ _ _ _ _ _ _ B F X N T k d u hQ=>C _ _ _ _ _ _ _ _ _ _ _ _ _ _ _ _ _ B F X N T k h d u fun t h' tk' F' N'=>hQ _ h' tk' ⟨t,rfl⟩ F' N'
theorem Cp.ofS {x : Str} (C : Cb w mean mg mb f D news pre vs (fun t=>.str x t)) (h : pre) : Cp w mean mg mb f D news vs (.s x) :=
  fun _ _ _ _ _ _ _ _ _ _ _ _ _ _ _ _ _ B F X N T k d u hQ=>C _ _ _ _ _ _ _ _ _ _ _ _ _ _ _ _ _ B F X N T k h d u fun t h' tk' F' N'=>hQ _ h' tk' ⟨t,rfl⟩ F' N'
theorem Cp.ofB {b : Bool} (C : Cb w mean mg mb f D news pre vs (fun _=>.bool b)) (h : pre) : Cp w mean mg mb f D news vs (.b b) :=
  fun _ _ _ _ _ _ _ _ _ _ _ _ _ _ _ _ _ B F X N T k d u hQ=>C _ _ _ _ _ _ _ _ _ _ _ _ _ _ _ _ _ B F X N T k h d u fun _ h' tk' F' N'=>hQ _ h' tk' rfl F' N'
theorem Cp.toI {n : Int} (C : pre → Cp w mean mg mb f D news vs (.i n)) : Cb w mean mg mb f D news pre vs (fun t=>.int n t) :=
  fun _ _ _ _ _ _ _ _ _ _ _ _ _ _ _ _ _ B F X N T k h d u hQ=>C h _ _ _ _ _ _ _ _ _ _ _ _ _ _ _ _ _ B F X N T k d u fun _ h' tk' ⟨t,e⟩ F' N'=>e ▸ hQ t h' tk' F' N'
theorem Cp.toS {x : Str} (C : pre → Cp w mean mg mb f D news vs (.s x)) : Cb w mean mg mb f D news pre vs (fun t=>.str x t) :=
  fun _ _ _ _ _ _ _ _ _ _ _ _ _ _ _ _ _ B F X N T k h d u hQ=>C h _ _ _ _ _ _ _ _ _ _ _ _ _ _ _ _ _ B F X N T k d u fun _ h' tk' ⟨t,e⟩ F' N'=>e ▸ hQ t h' tk' F' N'
theorem Cp.toB {b : Bool} (C : pre → Cp w mean mg mb f D news vs (.b b)) : Cb w mean mg mb f D news pre vs (fun _=>.bool b) :=
  fun _ _ _ _ _ _ _ _ _ _ _ _ _ _ _ _ _ B F X N T k h d u hQ=>C h _ _ _ _ _ _ _ _ _ _ _ _ _ _ _ _ _ B F X N T k d u fun _ h' tk' e F' N'=>e ▸ hQ 0 h' tk' F' N'
end
section
variable {g : G}
theorem Ev.loc {x : Str} {pos : Pos} {v : PV} (hk : (g.f.cs.names.lookup x == some .local && !(x == ("__debug__" : Str))) = true) (h : g.ρ.lookup x = some v) : Ev g (.Name x pos) v := by
  refine .mk ?_
  intro c m s Q E o hl F N hQ
  obtain ⟨y,hy,hi⟩ := hl x v h
  rw [Bool.and_eq_true,beq_iff_eq,Bool.not_eq_true'] at hk
  exact nameX_L F hy (hQ y s.heap s.toks hi F N) o.k hk.1 hk.2
theorem Ev.glo {x : Str} {pos : Pos} {v : Value} (hk : (g.f.cs.names.lookup x == some .globalImplicit && !(x == ("__debug__" : Str))) = true) (h : nsIn (hd.heap_39 g.w.params) mainGlobals x = some (some v)) : Ev g (.Name x pos) (.v v) := by
  refine .mk ?_
  intro c m s Q E o hl F N hQ
  rw [Bool.and_eq_true,beq_iff_eq,Bool.not_eq_true'] at hk
  exact nameX_K F o.X (topRead_of o.T) h (hQ v s.heap s.toks rfl F N) o.k hk.1 hk.2
theorem Ev.int {i : Int} {k : Nat} {pos : Pos} : Ev g (.Constant (.int i) k pos) (.i i) := .mk fun _ _ s _ _ _ _ F N hQ=>wpAny_Constant_int (hQ _ s.heap _ ⟨_,rfl⟩ F N)
theorem Ev.str {x : Str} {k : Nat} {pos : Pos} : Ev g (.Constant (.str x) k pos) (.s x) := .mk fun _ _ s _ _ _ _ F N hQ=>Constant_str (hQ _ s.heap _ ⟨_,rfl⟩ F N)
theorem Ev.bool {b : Bool} {k : Nat} {pos : Pos} : Ev g (.Constant (.bool b) k pos) (.b b) := .mk fun _ _ s _ _ _ _ F N hQ=>Constant_bool (hQ _ s.heap s.toks rfl F N)
theorem Ev.neg {e : Expr} {pos : Pos} {n : Int} (h : Ev g e (.i n)) : Ev g (.UnaryOp .USub e pos) (.i (-n)) := .mk fun c m s Q E o hl F N hQ =>
  UnaryOp_ (h.run c m s _ E o hl F N fun _ h' tk' ⟨_,e⟩ F' N'=>e ▸ neg_int (hQ _ h' _ ⟨_,rfl⟩ F' N'))
theorem Ev.bin {a b : Expr} {op : Operator} {pos : Pos} {u v r : PV} (h1 : Ev g a u) (h2 : Ev g b v) (h3 : Bn op u v r) : Ev g (.BinOp a op b pos) r := .mk fun c m s Q E o hl F N hQ =>
  wpAny_BinOp (h1.run c m s _ E o hl F N fun x h' tk' hx F' N'=>h2.run c m { s with heap := h',toks := tk' } _ E o hl F' N' fun y h'' tk'' hy F'' N''=>h3.run _ _ { s with heap := h'',toks := tk'' } _ E x y hx hy fun z tk hz=>hQ z h'' tk hz F'' N'')
theorem Bn.add {a b : Int} : Bn .Add (.i a) (.i b) (.i (a + b)) := .mk fun _ _ _ _ _ _ _ ⟨_,e1⟩ ⟨_,e2⟩ hQ=>e1 ▸ e2 ▸ PyProof.Rows.add_int (hQ _ _ ⟨_,rfl⟩)
theorem Bn.sub {a b : Int} : Bn .Sub (.i a) (.i b) (.i (a - b)) := .mk fun _ _ _ _ _ _ _ ⟨_,e1⟩ ⟨_,e2⟩ hQ=>e1 ▸ e2 ▸ PyProof.Rows.sub_int (hQ _ _ ⟨_,rfl⟩)
theorem Bn.mulR {a b : Int} (h : decide (Builtin.Int.intBits b ≤ 64) = true) : Bn .Mult (.i a) (.i b) (.i (a * b)) := .mk fun _ _ _ _ _ _ _ ⟨_,e1⟩ ⟨_,e2⟩ hQ=>e1 ▸ e2 ▸ PyProof.Rows.mul_int (hQ _ _ ⟨_,rfl⟩) (IntMulOk.of_right (of_decide_eq_true h))
theorem Bn.mulL {a b : Int} (h : decide (Builtin.Int.intBits a ≤ 64) = true) : Bn .Mult (.i a) (.i b) (.i (a * b)) := .mk fun _ _ _ _ _ _ _ ⟨_,e1⟩ ⟨_,e2⟩ hQ=>e1 ▸ e2 ▸ PyProof.Rows.mul_int (hQ _ _ ⟨_,rfl⟩) (IntMulOk.of_left (of_decide_eq_true h))
theorem Bn.div {a b : Int} (h : decide (b ≠ 0 ∧ b.natAbs < 1073741824) = true) : Bn .FloorDiv (.i a) (.i b) (.i (a.fdiv b)) := .mk fun _ _ _ _ _ _ _ ⟨_,e1⟩ ⟨_,e2⟩ hQ=>e1 ▸ e2 ▸ PyProof.Rows.floordiv_int (of_decide_eq_true h).1 (hQ _ _ ⟨_,rfl⟩) (Or.inl (PyProof.noPylong_small (of_decide_eq_true h).2))
theorem Bn.mod {a b : Int} (h : decide (b ≠ 0) = true) : Bn .Mod (.i a) (.i b) (.i (a.fmod b)) := .mk fun _ _ _ _ _ _ _ ⟨_,e1⟩ ⟨_,e2⟩ hQ=>e1 ▸ e2 ▸ PyProof.Rows.mod_int' (of_decide_eq_true h) (hQ _ _ ⟨_,rfl⟩)
theorem Bn.pow {a b : Int} (h : decide (0 ≤ b ∧ b ≤ 1000 ∧ a.natAbs < 2 ^ 64) = true) : Bn .Pow (.i a) (.i b) (.i (a ^ b.toNat)) := .mk fun _ _ _ _ _ _ _ ⟨_,e1⟩ ⟨_,e2⟩ hQ=>e1 ▸ e2 ▸ PyProof.Rows.pow_int_small (of_decide_eq_true h).1 (by have := (of_decide_eq_true h).2.1;omega) (of_decide_eq_true h).2.2 (hQ _ _ ⟨_,rfl⟩)
theorem Bn.shr {a b : Int} (h : decide (0 ≤ b) = true) : Bn .RShift (.i a) (.i b) (.i (a.fdiv (2 ^ b.toNat))) := .mk fun _ _ _ _ _ _ _ ⟨_,e1⟩ ⟨_,e2⟩ hQ=>e1 ▸ e2 ▸ PyProof.Rows.rshift_int (of_decide_eq_true h) (hQ _ _ ⟨_,rfl⟩)
theorem Bn.and {a b : Int} : Bn .BitAnd (.i a) (.i b) (.i (Builtin.bitAnd a b)) := .mk fun _ _ _ _ _ _ _ ⟨_,e1⟩ ⟨_,e2⟩ hQ=>e1 ▸ e2 ▸ PyProof.Rows.and_int (hQ _ _ ⟨_,rfl⟩)
theorem Bn.or {a b : Int} : Bn .BitOr (.i a) (.i b) (.i (Builtin.bitOr a b)) := .mk fun _ _ _ _ _ _ _ ⟨_,e1⟩ ⟨_,e2⟩ hQ=>e1 ▸ e2 ▸ PyProof.Rows.or_int (hQ _ _ ⟨_,rfl⟩)
theorem Bn.shl {a b : Int} (h0 : decide (0 ≤ b ∧ b ≤ 32) = true) (h : a.natAbs < 2 ^ 64) : Bn .LShift (.i a) (.i b) (.i (a * 2 ^ b.toNat)) := .mk fun _ _ _ _ _ _ _ ⟨_,e1⟩ ⟨_,e2⟩ hQ=>e1 ▸ e2 ▸ lshift_int_small (of_decide_eq_true h0).1 (by have := (of_decide_eq_true h0).2;omega) h (hQ _ _ ⟨_,rfl⟩)
end
end
section
theorem wpAny_forIn_rng {M : Model} {A : Around} {E : Value → Shared → Prop} {s : Shared} {β : Type} (f : Nat → β → Sem (ForInStep β)) (I : List Nat → β → Shared → Prop) (Q : β → Shared → Prop)
    (turn : ∀ x rest b s,I (x :: rest) b s → wpAny M A (f x b) (fun r s'=>match r with | .yield b'=>I rest b' s' | .done b'=>Q b' s') E s)
    (fin : ∀ b s,I [] b s → Q b s) (r : Std.Legacy.Range) (b : β) (h : I (List.range' r.start r.size r.step) b s) : wpAny M A (forIn r b f) Q E s := by
  rw [Std.Legacy.Range.forIn_eq_forIn_range']
  exact PySem.wpAny_forIn_list f I Q turn fin _ b h
open PySem.MeetsSeq PySem.MeetsSeq2 PySem.AutoSeq1 PySem.Calls in
theorem tuple_index (l : Addr) (items : Array Value) (n : Nat) (x : Value) (e : Value → Bool) (he : ∀ y,y ∈ items → EqGives y x (e y)) (j : Nat) (hj : j < items.size) (hit : e items[j] = true) (hno : ∀ m (hm : m < items.size),m < j → e items[m] = false) :
    Meets (Builtin.«tuple.index» ⟨[.ref l,x],[]⟩)
      (fun _ R s=>∃ o,s.heap.get? l = some o ∧ o.cls = .type "tuple" ∧ o.data = .seq items n ∧ R (.ok (.ret (.int j s.toks))) { s with toks := s.toks + 1 }) :=
  .of_wp fun prog w A R s h=>by
    obtain ⟨hp,g,d,tk,os⟩ := s;obtain ⟨⟨cls,dd,data,sl⟩,hl,hc,hdt,h⟩ := h
    simp only at hc hdt
    subst hc hdt
    wp_walk using wpAny_loadPart' hl
    refine wpAny_forIn_rng (fun (i : Nat) (b : Option Fin × PUnit)=>match items[i]? with
            | some y=>(do
              let b ← eqBool y x
              if b = true then do
                  let v ← retInt ↑i
                  pure (ForInStep.done (some v,()))
                else pure (ForInStep.yield (none,())) : Sem (ForInStep (Option Fin × PUnit)))
            | x=>pure (ForInStep.yield (none,()))) (fun rest (b : Option Fin × PUnit) s'=>b.1 = none ∧ s' = ⟨hp,g,d,tk,os⟩ ∧ ∃ i,rest = List.range' i (items.size - i) ∧ i ≤ j) _ ?turn ?fin [:min items.size items.size] (none,()) ?hst
    case turn =>
      rintro y rest b s' ⟨hb,rfl,i,hr,hi⟩
      have hlt : i < items.size := by omega
      rw [show items.size - i = (items.size - i - 1) + 1 by omega,List.range'_succ] at hr
      obtain ⟨rfl,rfl⟩ := List.cons.inj hr
      simp only [Array.getElem?_eq_getElem hlt]
      refine wpAny_bind (he _ (Array.getElem_mem hlt) prog w _ _ _ _ ?_)
      by_cases hij : y = j
      · subst hij
        rw [hit]
        wp_walk
        exact ⟨_,rfl,h⟩
      · rw [hno y hlt (by omega)]
        wp_walk
        exact ⟨rfl,rfl,y + 1,by rw [show items.size - (y + 1) = items.size - y - 1 by omega],by omega⟩
    case fin =>
      rintro b s' ⟨hb,rfl,i,hr,hi⟩
      have : (List.range' i (items.size - i)).length = 0 := by rw [← hr];rfl
      rw [List.length_range'] at this
      omega
    case hst =>
      exact ⟨rfl,rfl,0,by simp [Std.Legacy.Range.size],by omega⟩
theorem ne_idx {ys : List Str} {k : Str} : ∀ {i : Nat} (h : i < ys.length),i < ys.idxOf k → (ys[i] == k) = false := by
  induction ys with
  | nil=>intro i h;cases h
  | cons y ys ih =>
    intro i h hlt
    rw [List.idxOf_cons] at hlt
    by_cases hy : (y == k) = true
    · rw [hy] at hlt;simp at hlt
    · have hy : (y == k) = false := by simpa using hy
      rw [hy] at hlt
      cases i with
      | zero=>exact hy
      | succ i=>exact ih (by simpa using h) (by simpa using hlt)
theorem idx_at (k : Str) {vs : List Value} {ys : List Str} (h : StrsAre vs ys) (j : Nat) (h1 : j < vs.length) (h2 : j < ys.length) : isStrOf k vs[j] = (ys[j] == k) := by
  obtain ⟨y,t,e,e2⟩ := h.item j vs[j] (List.getElem?_eq_getElem h1)
  rw [List.getElem?_eq_getElem h2] at e2
  rw [e,Option.some.inj e2];rfl
theorem idx_len {vs : List Value} {ys : List Str} (h : StrsAre vs ys) : vs.length = ys.length := h.length
open PySem.Calls
section
variable {prog : Program} {w : World} {A : Around} {E : Value → Shared → Prop} {s : Shared} {h₀ : Heap} {L : Addr} {news : List (Addr × Obj)}
theorem idx_list {D : Addr} {vs : List Value} {n : Nat} {ys : List Str} {k : Str} {t : Tok} {Q : Value → Shared → Prop} (N : News h₀ L s.heap news) (hm : (D,listOf vs.toArray n) ∈ news) (hi : StrsAre vs ys) (hk : k ∈ ys) (hz : ys.length ≤ 1000)
    (h : Q (.int (ys.idxOf k : Nat) s.toks) { s with toks := s.toks + 1 }) : wpAny (model prog w) A (call (.builtin "list.index") [.ref D,.str k t]) Q E s := by
  have hl := idx_len hi
  have hj : ys.idxOf k < ys.length := List.idxOf_lt_length_iff.mpr hk
  refine call_meets PySem.F.slot_list_index ⟨_,(N _ hm).1,rfl⟩ PySem.F.entry_list_index (PySem.F.args_list_index_2 _ _)
    (MeetsSeq.list_index D vs.toArray n (.str k t) (isStrOf k) (fun y hy=>eq_isStrOf k t hi y (by simpa using hy)) (ys.idxOf k) (by simpa [hl] using hj) (by omega) ?_ (fun i hs hlt=>?_)) ⟨(N _ hm).1,h⟩
  · show isStrOf k vs[ys.idxOf k] = true
    rw [idx_at k hi _ (by omega) hj]
    simp
  · show isStrOf k vs[i] = false
    rw [idx_at k hi i (by simpa using hs) (by omega)]
    exact ne_idx _ hlt
theorem idx_tup {D : Addr} {vs : List Value} {ys : List Str} {k : Str} {t : Tok} {Q : Value → Shared → Prop} (hD : IsTup s.heap D vs.toArray) (hi : StrsAre vs ys) (hk : k ∈ ys)
    (h : Q (.int (ys.idxOf k : Nat) s.toks) { s with toks := s.toks + 1 }) : wpAny (model prog w) A (call (.builtin "tuple.index") [.ref D,.str k t]) Q E s := by
  have hl := idx_len hi
  have hj : ys.idxOf k < ys.length := List.idxOf_lt_length_iff.mpr hk
  obtain ⟨o,ho,hc,n,hd⟩ := hD
  refine call_meets PySem.F.slot_tuple_index ⟨_,ho,hc⟩ PySem.F.entry_tuple_index (PySem.F.args_tuple_index_2 _ _)
    (tuple_index D vs.toArray n (.str k t) (isStrOf k) (fun y hy=>eq_isStrOf k t hi y (by simpa using hy)) (ys.idxOf k) (by simpa [hl] using hj) ?_ (fun i hs hlt=>?_)) ⟨o,ho,hc,hd,h⟩
  · show isStrOf k vs[ys.idxOf k] = true
    rw [idx_at k hi _ (by omega) hj]
    simp
  · show isStrOf k vs[i] = false
    rw [idx_at k hi i (by simpa using hs) (by omega)]
    exact ne_idx _ hlt
end
noncomputable def cellsL : List Str := Txt.split (Str.ofString "zero ra sp gp tp t0 t1 t2 s0 s1 a0 a1 a2 a3 a4 a5 a6 a7 s2 s3 s4 s5 s6 s7 s8 s9 s10 s11 t3 t4 t5 t6") (Str.ofString " ")
noncomputable def cellF (x : Str) : Int := if x ∈ cellsL then ((cellsL.idxOf x : Nat) : Int) else 10 ^ 15
theorem cells_len : cellsL.length = 32 := by decide +kernel
theorem any_mem {ys : List Str} {k : Str} (h : (ys.any fun x=>x == k) = true) : k ∈ ys := by
  obtain ⟨x,hx,e⟩ := List.any_eq_true.mp h
  rw [← beq_iff_eq.mp e];exact hx
theorem any_nmem {ys : List Str} {k : Str} (h : (ys.any fun x=>x == k) = false) : k ∉ ys := fun hk=>by
  have := List.any_eq_false.mp h k hk
  simp at this
theorem cell_end1 {x : Str} {ys : List Str} (e : ys = cellsL) (h : (ys.any fun y=>y == x) = true) : ((ys.idxOf x : Nat) : Int) = cellF x := by
  subst e;rw [cellF,if_pos (any_mem h)]
theorem cell_end2 {x : Str} {ys : List Str} {i : Int} (e : ys = cellsL) (h : (ys.any fun y=>y == x) = false) (hi : i = 10 ^ 15) : i = cellF x := by
  subst e;rw [cellF,if_neg (any_nmem h),hi]
end
section
noncomputable def numV (x : Str) : Int := (PySem.NumText.digitsVal x.cps.toList : Nat)
noncomputable def figs (x : Str) : Bool := x.cps.toList.all fun c=>decide (48 ≤ c ∧ c ≤ 57)
noncomputable def numF (x : Str) : Int :=
  if (Txt.slice x none (some 1) == Str.ofString "-") = true then
    (if (Txt.slice x (some 1) none == Str.ofString "") = true then 10 ^ 15 else if figs (Txt.slice x (some 1) none) = true then -numV (Txt.slice x (some 1) none) else 10 ^ 15)
  else if (x == Str.ofString "") = true then 10 ^ 15 else if figs x = true then numV x else 10 ^ 15
theorem dig_mem (c : Nat) : c ∈ (Str.ofString "0123456789").cps.toList ↔ 48 ≤ c ∧ c ≤ 57 := by
  rw [show (Str.ofString "0123456789").cps.toList = List.range' 48 10 by decide +kernel,List.mem_range'_1]
  exact ⟨fun h=>⟨h.1,Nat.le_of_lt_succ h.2⟩,fun h=>⟨h.1,Nat.lt_succ_of_le h.2⟩⟩
theorem figs_nil {x : Str} {ys : List Value} (hC : CarriedAll ys (List.map PyData.str (List.filter (fun a=>!!(Builtin.Str.occurrences (Str.ofString "0123456789") a 0 (Str.ofString "0123456789").length 1).isEmpty) (signs x)))) (hy : ys = []) : figs x = true := by
  subst hy
  have h : List.filter (fun a=>!!(Builtin.Str.occurrences (Str.ofString "0123456789") a 0 (Str.ofString "0123456789").length 1).isEmpty) (signs x) = [] := by
    generalize List.filter _ (signs x) = l at hC
    cases l with
    | nil=>rfl
    | cons a l=>cases hC
  unfold figs
  rw [List.all_eq_true]
  intro c hc
  have := List.filter_eq_nil_iff.mp h ⟨#[c]⟩ (List.mem_map.mpr ⟨c,hc,rfl⟩)
  rw [PyProof.Rows.empty_one] at this
  simp only [Bool.not_not,Bool.not_eq_true',decide_eq_false_iff_not,Classical.not_not,dig_mem] at this
  simpa using this
theorem figs_cons {x : Str} {ys : List Value} (hC : CarriedAll ys (List.map PyData.str (List.filter (fun a=>!!(Builtin.Str.occurrences (Str.ofString "0123456789") a 0 (Str.ofString "0123456789").length 1).isEmpty) (signs x)))) (hy : ¬ ys = []) : ¬ figs x = true := by
  intro hf
  apply hy
  have h : List.filter (fun a=>!!(Builtin.Str.occurrences (Str.ofString "0123456789") a 0 (Str.ofString "0123456789").length 1).isEmpty) (signs x) = [] := by
    rw [List.filter_eq_nil_iff]
    intro a ha
    obtain ⟨c,hc,rfl⟩ := List.mem_map.mp ha
    rw [PyProof.Rows.empty_one]
    have := List.all_eq_true.mp hf c hc
    simp only [Bool.not_not,Bool.not_eq_true',decide_eq_false_iff_not,Classical.not_not,dig_mem]
    simpa using this
  rw [h] at hC
  cases hC;rfl
theorem int_figs {x : Str} {ys : List Value} (hC : CarriedAll ys (List.map PyData.str (List.filter (fun a=>!!(Builtin.Str.occurrences (Str.ofString "0123456789") a 0 (Str.ofString "0123456789").length 1).isEmpty) (signs x)))) (hy : ys = []) (hx : (x == Str.ofString "") = false) (hl : x.length ≤ 600) :
    PySem.intText? x = some (numV x) := by
  have hf := figs_nil hC hy
  refine PySem.intText_digits (fun c hc=>?_) (fun e=>?_) (Nat.le_trans hl (by decide))
  · have := List.all_eq_true.mp hf c hc
    simpa using this
  · have : x = Str.ofString "" := by
      obtain ⟨⟨l⟩⟩ := x
      simp only at e
      subst e;rfl
    rw [this] at hx;simp at hx
section
variable {x : Str} {ys : List Value}
theorem numE1 (h1 : (Txt.slice x none (some 1) == Str.ofString "-") = true) (h2 : (Txt.slice x (some 1) none == Str.ofString "") = true) : (10 : Int) ^ Int.toNat 15 = numF x := by rw [numF,if_pos h1,if_pos h2];rfl
theorem numE2 (h1 : (Txt.slice x none (some 1) == Str.ofString "-") = true) (h2 : (Txt.slice x (some 1) none == Str.ofString "") = false) (hC : CarriedAll ys (List.map PyData.str (List.filter (fun a=>!!(Builtin.Str.occurrences (Str.ofString "0123456789") a 0 (Str.ofString "0123456789").length 1).isEmpty) (signs (Txt.slice x (some 1) none))))) (hy : ys = []) : -numV (Txt.slice x (some 1) none) = numF x := by
  rw [numF,if_pos h1,if_neg (by rw [h2];decide),if_pos (figs_nil hC hy)]
theorem numE3 (h1 : (Txt.slice x none (some 1) == Str.ofString "-") = true) (h2 : (Txt.slice x (some 1) none == Str.ofString "") = false) (hC : CarriedAll ys (List.map PyData.str (List.filter (fun a=>!!(Builtin.Str.occurrences (Str.ofString "0123456789") a 0 (Str.ofString "0123456789").length 1).isEmpty) (signs (Txt.slice x (some 1) none))))) (hy : ¬ ys = []) : (10 : Int) ^ Int.toNat 15 = numF x := by
  rw [numF,if_pos h1,if_neg (by rw [h2];decide),if_neg (figs_cons hC hy)];rfl
theorem numE4 (h1 : (Txt.slice x none (some 1) == Str.ofString "-") = false) (h2 : (x == Str.ofString "") = true) : (10 : Int) ^ Int.toNat 15 = numF x := by rw [numF,if_neg (by rw [h1];decide),if_pos h2];rfl
theorem numE5 (h1 : (Txt.slice x none (some 1) == Str.ofString "-") = false) (h2 : (x == Str.ofString "") = false) (hC : CarriedAll ys (List.map PyData.str (List.filter (fun a=>!!(Builtin.Str.occurrences (Str.ofString "0123456789") a 0 (Str.ofString "0123456789").length 1).isEmpty) (signs x)))) (hy : ys = []) : numV x = numF x := by
  rw [numF,if_neg (by rw [h1];decide),if_neg (by rw [h2];decide),if_pos (figs_nil hC hy)]
theorem numE6 (h1 : (Txt.slice x none (some 1) == Str.ofString "-") = false) (h2 : (x == Str.ofString "") = false) (hC : CarriedAll ys (List.map PyData.str (List.filter (fun a=>!!(Builtin.Str.occurrences (Str.ofString "0123456789") a 0 (Str.ofString "0123456789").length 1).isEmpty) (signs x)))) (hy : ¬ ys = []) : (10 : Int) ^ Int.toNat 15 = numF x := by
  rw [numF,if_neg (by rw [h1];decide),if_neg (by rw [h2];decide),if_neg (figs_cons hC hy)];rfl
end
end
section
open PyProof.Rows.KTD
noncomputable def brL : List Str := [Str.ofString "beq",Str.ofString "bne",Str.ofString "",Str.ofString "",Str.ofString "blt",Str.ofString "bge",Str.ofString "bltu",Str.ofString "bgeu"]
noncomputable def feL : List Str := [Str.ofString "lb",Str.ofString "lh",Str.ofString "lw",Str.ofString "",Str.ofString "lbu",Str.ofString "lhu"]
noncomputable def wfL : List Str := [Str.ofString "addi",Str.ofString "slli",Str.ofString "slti",Str.ofString "sltiu",Str.ofString "xori",Str.ofString "srli",Str.ofString "ori",Str.ofString "andi"]
noncomputable def wcL : List Str := [Str.ofString "add",Str.ofString "sll",Str.ofString "slt",Str.ofString "sltu",Str.ofString "xor",Str.ofString "srl",Str.ofString "or",Str.ofString "and"]
noncomputable def tiL : List Str := [Str.ofString "mul",Str.ofString "mulh",Str.ofString "mulhsu",Str.ofString "mulhu",Str.ofString "div",Str.ofString "divu",Str.ofString "rem",Str.ofString "remu"]
noncomputable def TupK (h : Heap) (a : Addr) (l : List Str) : Prop := ∃ o vs n,h.get? a = some o ∧ o.cls = .type "tuple" ∧ o.dict = none ∧ o.data = .seq (List.toArray vs) n ∧ StrsAre vs l
theorem TupK.tup {h : Heap} {a : Addr} {l : List Str} (x : TupK h a l) : ∃ vs,IsTup h a (List.toArray vs) ∧ StrsAre vs l := let ⟨o,vs,n,ho,hc,_,hd,hs⟩ := x;⟨vs,⟨o,ho,hc,n,hd⟩,hs⟩
theorem TupK.keeps {h h' : Heap} {a : Addr} {l : List Str} (x : TupK h a l) (hk : ∀ b o,h.get? b = some o → h'.get? b = some o) : TupK h' a l := let ⟨o,vs,n,ho,r⟩ := x;⟨o,vs,n,hk _ _ ho,r⟩
noncomputable def tupLook (get : Addr → Option Obj) (a : Addr) (l : List Str) : Bool := match get a with
  | some o=>o.cls == .type "tuple" && o.dict.isNone && (match o.data with
    | .seq items _=>strsLook items.toList l
    | _=>false)
  | none=>false
theorem tup_at {w : World} {h : Heap} {a : Addr} {l : List Str} (X : (hd.heap_39 w.params).In h) (e : tupLook (fun b=>(hd.heap_39 w.params).lookup b) a l = true) : TupK h a l := by
  unfold tupLook at e
  split at e
  · rename_i o ho
    rw [Bool.and_eq_true,Bool.and_eq_true] at e
    obtain ⟨⟨hc,hn⟩,e⟩ := e
    split at e
    · rename_i items n hd
      exact ⟨o,items.toList,n,X _ _ ho,beq_iff_eq.mp hc,by simpa using hn,by rw [hd],strs_of_look e⟩
    · cases e
  · cases e
theorem br_at {w : World} {h : Heap} (X : (hd.heap_39 w.params).In h) : TupK h 412 brL := tup_at X (by kernel_rfl)
theorem fe_at {w : World} {h : Heap} (X : (hd.heap_39 w.params).In h) : TupK h 413 feL := tup_at X (by kernel_rfl)
theorem wf_at {w : World} {h : Heap} (X : (hd.heap_39 w.params).In h) : TupK h 414 wfL := tup_at X (by kernel_rfl)
theorem wc_at {w : World} {h : Heap} (X : (hd.heap_39 w.params).In h) : TupK h 415 wcL := tup_at X (by kernel_rfl)
theorem ti_at {w : World} {h : Heap} (X : (hd.heap_39 w.params).In h) : TupK h 416 tiL := tup_at X (by kernel_rfl)
section
variable {w : World} {A : Around} {E : Value → Shared → Prop} {s : Shared} {h₀ : Heap} {L : Addr} {m : Str → Option Value} {prog : Program}
theorem in_tupK {a : Addr} {l : List Str} {n : Str} {t : Tok} {b : Bool} {Q : Value → Shared → Prop} (F : Fr h₀ L s.heap m) (H : TupK h₀ a l) (hb : (l.any fun x=>x == n) = b)
    (h : Q (.bool b) s) : wpAny (model prog w) A (compareOp .In (.str n t) (.ref a)) Q E s := by
  obtain ⟨vs,h1,h2⟩ := H.tup
  exact in_tuple_strs (h1.keeps F.keep) (by rw [List.toList_toArray];exact h2) (by rw [hb];exact h)
theorem idx_tupK {a : Addr} {l : List Str} {n : Str} {t : Tok} {Q : Value → Shared → Prop} (F : Fr h₀ L s.heap m) (H : TupK h₀ a l) (hb : (l.any fun x=>x == n) = true)
    (h : Q (.int (l.idxOf n : Nat) s.toks) { s with toks := s.toks + 1 }) : wpAny (model prog w) A (call (.builtin "tuple.index") [.ref a,.str n t]) Q E s := by
  obtain ⟨vs,h1,h2⟩ := H.tup
  exact idx_tup (h1.keeps F.keep) h2 (any_mem hb) h
theorem meth_tupK {a : Addr} {l : List Str} {pl : Sem Bool} {Q : Value × List Value → Shared → Prop} (F : Fr h₀ L s.heap m) (H : TupK h₀ a l) (h : Q (.builtin "tuple.index",[.ref a]) s) :
    wpAny (model prog w) A (getMethod (.ref a) "index" pl) Q E s := by
  obtain ⟨o,vs,n,ho,hc,hn,_⟩ := H.keeps F.keep
  exact getMethod_builtin ⟨_,ho,hc⟩ PySem.F.plainAttrs_tuple PySem.F.slot_tuple_index PySem.F.type_tuple_index (fun b e=>by cases e;exact ⟨_,ho,hn⟩) h
variable {news : List (Addr × Obj)}
theorem part_item {value slice : PySem.Expr} {P : Addr} {vs : List Value} {n : Nat} {k : Int} {u : Tok} {x : Value} {Q : Value → Shared → Prop} (N : News h₀ L s.heap news) (hm : (P,listOf (List.toArray vs) n) ∈ news) (h0 : 0 ≤ k ∧ k < 2 ^ 63) (hx : vs[k.toNat]? = some x) (h : Q x s)
    (hs : subscripted slice false (.ref P) (.int k u) = operate [.ref P,.int k u] (getItem (.ref P) (.int k u)) := by with_unfolding_all rfl) (hg : ∀ r,letTemporaryGo value (.ref P) r = pure () := by intro _;with_unfolding_all rfl) :
    wpAny (model prog w) A (subscriptTail value slice (.ref P) (.int k u)) Q E s := item_list (News.isList N hm) h0.1 h0.2 (by simpa using hx) h hs hg
theorem part_last {value slice : PySem.Expr} {P : Addr} {vs : List Value} {n : Nat} {u : Tok} {x : Value} {Q : Value → Shared → Prop} (N : News h₀ L s.heap news) (hm : (P,listOf (List.toArray vs) n) ∈ news) (hx : vs.getLast? = some x) (h : Q x s)
    (hs : subscripted slice false (.ref P) (.int (-1) u) = operate [.ref P,.int (-1) u] (getItem (.ref P) (.int (-1) u)) := by with_unfolding_all rfl) (hg : ∀ r,letTemporaryGo value (.ref P) r = pure () := by intro _;with_unfolding_all rfl) :
    wpAny (model prog w) A (subscriptTail value slice (.ref P) (.int (-1) u)) Q E s := by
  have hl : s.heap.IsList P (List.toArray vs) := News.isList N hm
  have hne : vs ≠ [] := fun e=>by rw [e] at hx;cases hx
  have hp : 0 < vs.length := List.length_pos_iff.mpr hne
  refine subscriptTail_builtin hl.typeIs PySem.slot_list_getitem.lookup (wpAny_getItem_list_neg hl (by decide) (by simp;omega) (by decide) ?_ h) hs hg
  rw [List.getLast?_eq_getElem?] at hx
  have e : ((-1 : Int) + (List.toArray vs).size).toNat = vs.length - 1 := by simp;omega
  rw [e]
  simpa using hx
theorem part_len {P : Addr} {vs : List Value} {n : Nat} {k : Int} {Q : Value → Shared → Prop} (N : News h₀ L s.heap news) (hm : (P,listOf (List.toArray vs) n) ∈ news) (hl : (vs.length : Int) = k) (hk : k ≤ 1000) (h : Q (.int k (s.toks + 1)) { s with toks := s.toks + 1 + 1 }) :
    wpAny (model prog w) A (call (.builtin "len") [.ref P]) Q E s := by
  have hl' : s.heap.IsList P (List.toArray vs) := News.isList N hm
  refine Calls.call_len_list hl' (by simp;omega) ?_
  rw [← hl] at h
  simpa using h
theorem meth_tupN {a : Addr} {vs : List Value} {pl : Sem Bool} {Q : Value × List Value → Shared → Prop} (N : News h₀ L s.heap news) (hm : (a,({ cls := .type "tuple",data := .seq (List.toArray vs) } : Obj)) ∈ news) (h : Q (.builtin "tuple.index",[.ref a]) s) :
    wpAny (model prog w) A (getMethod (.ref a) "index" pl) Q E s :=
  getMethod_builtin ⟨_,(N _ hm).1,rfl⟩ PySem.F.plainAttrs_tuple PySem.F.slot_tuple_index PySem.F.type_tuple_index (fun b e=>by cases e;exact ⟨_,(N _ hm).1,rfl⟩) h
theorem idx_tupN {a : Addr} {vs : List Value} {l : List Str} {n : Str} {t : Tok} {Q : Value → Shared → Prop} (N : News h₀ L s.heap news) (hm : (a,({ cls := .type "tuple",data := .seq (List.toArray vs) } : Obj)) ∈ news) (hs : StrsAre vs l) (hb : (l.any fun x=>x == n) = true)
    (h : Q (.int (l.idxOf n : Nat) s.toks) { s with toks := s.toks + 1 }) : wpAny (model prog w) A (call (.builtin "tuple.index") [.ref a,.str n t]) Q E s :=
  idx_tup ⟨_,(N _ hm).1,rfl,_,rfl⟩ hs (any_mem hb) h
end
end
section
open PySem.Calls
section
variable {g : G}
theorem Cm.lt {a b : Int} : Cm g .Lt (.i a) (.i b) (decide (a < b)) := .mk fun _ _ _ _ _ _ _ _ _ _ ⟨_,e1⟩ ⟨_,e2⟩ hQ=>e1 ▸ e2 ▸ PyProof.Rows.lt_int hQ
theorem Cm.le {a b : Int} : Cm g .LtE (.i a) (.i b) (decide (a ≤ b)) := .mk fun _ _ _ _ _ _ _ _ _ _ ⟨_,e1⟩ ⟨_,e2⟩ hQ=>e1 ▸ e2 ▸ PyProof.Rows.le_int hQ
theorem Cm.eqI {a b : Int} : Cm g .Eq (.i a) (.i b) (a == b) := .mk fun _ _ _ _ _ _ _ _ _ _ ⟨_,e1⟩ ⟨_,e2⟩ hQ=>e1 ▸ e2 ▸ PyProof.Rows.eq_int hQ
theorem Cm.eqS {a b : Str} : Cm g .Eq (.s a) (.s b) (a == b) := .mk fun _ _ _ _ _ _ _ _ _ _ ⟨_,e1⟩ ⟨_,e2⟩ hQ=>e1 ▸ e2 ▸ PyProof.Rows.eq_str hQ
theorem Cm.neS {a b : Str} : Cm g .NotEq (.s a) (.s b) (a != b) := .mk fun _ _ _ _ _ _ _ _ _ _ ⟨_,e1⟩ ⟨_,e2⟩ hQ=>e1 ▸ e2 ▸ PyProof.Rows.ne_str hQ
theorem Cm.inK {a : Addr} {l : List Str} {x : Str} (H : ∀ {w : World} {h : Heap},(hd.heap_39 w.params).In h → TupK h a l) : Cm g .In (.s x) (.v (.ref a)) (l.any fun y=>y == x) := .mk fun _ _ _ _ _ _ _ o F _ ⟨_,e1⟩ e2 hQ=>e1 ▸ e2 ▸ in_tupK F (H o.X) rfl hQ
structure Ws (es : List Expr) (l : List Str) : Prop where
  run : ∀ (g : G),∀ (c : Rn) (pos : Pos) (m : Str → Option Value) (s : Shared) (Q : List Value → Shared → Prop) (E : Value → Shared → Prop),Fr c.h₀ c.L s.heap m → News c.h₀ c.L s.heap g.N →
  (∀ vs tk',StrsAre vs l → Q vs { s with toks := tk' }) → wpAny (model PRG g.w) (c.A g.f) (spliced (backTo pos (starEach es (c.env g.f)))) Q E s
theorem Ws.nil : Ws [] [] := .mk fun _ _ _ _ s _ _ _ _ hQ=>args_nil (hQ [] s.toks .nil)
theorem Ws.cons {x : Str} {k : Nat} {p : Pos} {es : List Expr} {l : List Str} (h : Ws es l) : Ws (.Constant (.str x) k p :: es) (x :: l) := .mk fun g c pos m s Q E F N hQ =>
  args_cons (Constant_str (h.run g c pos m _ _ E F N fun vs tk' hs=>hQ _ tk' (.cons x _ hs))) rfl
theorem strs_len {vs : List Value} {l : List Str} (h : StrsAre vs l) : vs.length = l.length := h.length
theorem Te.inW {a : Expr} {es : List Expr} {k : Nat} {p pos : Pos} {x : Str} {l : List Str} (h1 : Ev g a (.s x)) (h2 : Ws es l) (hl : l.length ≤ 40) (hb : behindInMarks .In (.Tuple es k p) = false) : Te g (.Compare a [.In] [.Tuple es k p] pos) (l.any fun y=>y == x) := .mk fun c m s Q E whole o hl' F N _ hQ =>
  wpAny_isTrue_Compare1 (h1.run c m s _ E o hl' F N fun _ h' tk' ⟨_,e⟩ F' N'=>Tuple_ (h2.run g c p m _ _ E F' N' fun vs tk2 hs=>kup_newTuple (s := { s with heap := h',toks := tk2 }) F' N' (fun D h'' F'' N'' _=>e ▸ in_tuple_strs (News.isTup N'' (.head _)) (by rw [List.toList_toArray];exact hs)
    (wpAny_truthy_bool (hQ h'' tk2 F'' fun q hq=>N'' q (.tail _ hq)))) (by rw [strs_len hs,sizeLine_eq];omega))) hb
-- tests
theorem Te.cmp {a b : Expr} {op : CmpOp} {pos : Pos} {u v : PV} {r : Bool} (h1 : Ev g a u) (h2 : Ev g b v) (h3 : Cm g op u v r) (hb : behindInMarks op b = false) : Te g (.Compare a [op] [b] pos) r := .mk fun c m s Q E whole o hl F N _ hQ =>
  wpAny_isTrue_Compare1 (h1.run c m s _ E o hl F N fun x h' tk' hx F' N'=>h2.run c m { s with heap := h',toks := tk' } _ E o hl F' N' fun y h'' tk'' hy F'' N''=>h3.run c m { s with heap := h'',toks := tk'' } _ E x y o F'' N'' hx hy (wpAny_truthy_bool (hQ h'' tk'' F'' N''))) hb
theorem Te.chain {a b d : Expr} {op op2 : CmpOp} {pos : Pos} {u v z : PV} {r r2 : Bool} (h1 : Ev g a u) (h2 : Ev g b v) (h3 : Cm g op u v r) (h4 : Ev g d z) (h5 : Cm g op2 v z r2) (hb : lastMarks [op,op2] [b,d] = false) : Te g (.Compare a [op,op2] [b,d] pos) (r && r2) := .mk fun c m s Q E whole o hl F N _ hQ =>
  isTrue_chain (h1.run c m s _ E o hl F N fun x h' tk' hx F' N'=>test_link (h2.run c m { s with heap := h',toks := tk' } _ E o hl F' N' fun y h2' tk2 hy F2 N2=>h3.run c m { s with heap := h2',toks := tk2 } _ E x y o F2 N2 hx hy (wpAny_truthy_bool (by
    cases r with
    | false=>exact hQ h2' tk2 F2 N2
    | true=>exact test_last (h4.run c m { s with heap := h2',toks := tk2 } _ E o hl F2 N2 fun z' h3' tk3 hz F3 N3=>h5.run c m { s with heap := h3',toks := tk3 } _ E y z' o F3 N3 hy hz (wpAny_truthy_bool (hQ h3' tk3 F3 N3))))))) hb
theorem Te.and2 {a b : Expr} {pos : Pos} {p q : Bool} (h1 : Te g a p) (h2 : p = true → Te g b q) : Te g (.BoolOp .And [a,b] pos) (p && q) := .mk fun c m s Q E whole o hl F N _ hQ =>
  isTrue_and (h1.run c m s _ E _ o hl F N rfl fun h' tk' F' N'=>by
    cases p with
    | false=>exact hQ h' tk' F' N'
    | true=>exact isTrue_and ((h2 rfl).run c m { s with heap := h',toks := tk' } _ E _ o hl F' N' rfl fun h2' tk2 F2 N2=>by
        cases q with
        | false=>exact hQ h2' tk2 F2 N2
        | true=>exact isTrue_and_nil (hQ h2' tk2 F2 N2)))
theorem Te.and3 {a b d : Expr} {pos : Pos} {p q r : Bool} (h1 : Te g a p) (h2 : p = true → Te g b q) (h3 : p = true → q = true → Te g d r) : Te g (.BoolOp .And [a,b,d] pos) (p && (q && r)) := .mk fun c m s Q E whole o hl F N hw hQ =>
  isTrue_and (h1.run c m s _ E _ o hl F N rfl fun h' tk' F' N'=>by
    cases p with
    | false=>exact hQ h' tk' F' N'
    | true=>exact isTrue_and ((h2 rfl).run c m { s with heap := h',toks := tk' } _ E _ o hl F' N' rfl fun h2' tk2 F2 N2=>by
        cases q with
        | false=>exact hQ h2' tk2 F2 N2
        | true=>exact isTrue_and ((h3 rfl rfl).run c m { s with heap := h2',toks := tk2 } _ E _ o hl F2 N2 rfl fun h3' tk3 F3 N3=>by
            cases r with
            | false=>exact hQ h3' tk3 F3 N3
            | true=>exact isTrue_and_nil (hQ h3' tk3 F3 N3))))
theorem Te.and4 {a b d e : Expr} {pos : Pos} {p q r t : Bool} (h1 : Te g a p) (h2 : p = true → Te g b q) (h3 : p = true → q = true → Te g d r) (h4 : p = true → q = true → r = true → Te g e t) : Te g (.BoolOp .And [a,b,d,e] pos) (p && (q && (r && t))) := .mk fun c m s Q E whole o hl F N hw hQ =>
  isTrue_and (h1.run c m s _ E _ o hl F N rfl fun h' tk' F' N'=>by
    cases p with
    | false=>exact hQ h' tk' F' N'
    | true=>exact isTrue_and ((h2 rfl).run c m { s with heap := h',toks := tk' } _ E _ o hl F' N' rfl fun h2' tk2 F2 N2=>by
        cases q with
        | false=>exact hQ h2' tk2 F2 N2
        | true=>exact isTrue_and ((h3 rfl rfl).run c m { s with heap := h2',toks := tk2 } _ E _ o hl F2 N2 rfl fun h3' tk3 F3 N3=>by
            cases r with
            | false=>exact hQ h3' tk3 F3 N3
            | true=>exact isTrue_and ((h4 rfl rfl rfl).run c m { s with heap := h3',toks := tk3 } _ E _ o hl F3 N3 rfl fun h4' tk4 F4 N4=>by
                cases t with
                | false=>exact hQ h4' tk4 F4 N4
                | true=>exact isTrue_and_nil (hQ h4' tk4 F4 N4)))))
theorem Te.or2 {a b : Expr} {pos : Pos} {p q : Bool} (h1 : Te g a p) (h2 : p = false → Te g b q) : Te g (.BoolOp .Or [a,b] pos) (p || q) := .mk fun c m s Q E whole o hl F N _ hQ =>
  isTrue_or (h1.run c m s _ E _ o hl F N rfl fun h' tk' F' N'=>by
    cases p with
    | true=>exact hQ h' tk' F' N'
    | false=>exact isTrue_or ((h2 rfl).run c m { s with heap := h',toks := tk' } _ E _ o hl F' N' rfl fun h2' tk2 F2 N2=>by
        cases q with
        | true=>exact hQ h2' tk2 F2 N2
        | false=>exact isTrue_or_nil (hQ h2' tk2 F2 N2)))
theorem Te.or3 {a b d : Expr} {pos : Pos} {p q r : Bool} (h1 : Te g a p) (h2 : p = false → Te g b q) (h3 : p = false → q = false → Te g d r) : Te g (.BoolOp .Or [a,b,d] pos) (p || (q || r)) := .mk fun c m s Q E whole o hl F N _ hQ =>
  isTrue_or (h1.run c m s _ E _ o hl F N rfl fun h' tk' F' N'=>by
    cases p with
    | true=>exact hQ h' tk' F' N'
    | false=>exact isTrue_or ((h2 rfl).run c m { s with heap := h',toks := tk' } _ E _ o hl F' N' rfl fun h2' tk2 F2 N2=>by
        cases q with
        | true=>exact hQ h2' tk2 F2 N2
        | false=>exact isTrue_or ((h3 rfl rfl).run c m { s with heap := h2',toks := tk2 } _ E _ o hl F2 N2 rfl fun h3' tk3 F3 N3=>by
            cases r with
            | true=>exact hQ h3' tk3 F3 N3
            | false=>exact isTrue_or_nil (hQ h3' tk3 F3 N3))))
theorem Te.not {a : Expr} {pos : Pos} {p : Bool} (h1 : Te g a p) : Te g (.UnaryOp .Not a pos) (!p) := .mk fun c m s Q E whole o hl F N _ hQ =>
  isTrue_not (h1.run c m s _ E _ o hl F N rfl hQ)
theorem Te.call {f : Expr} {as : List Expr} {ks : List Keyword} {pos : Pos} {b : Bool} (h : Ev g (.Call f as ks pos) (.b b)) : Te g (.Call f as ks pos) b := .mk fun c m s Q E whole o hl F N hw hQ =>
  isTrue_plain (hw ▸ h.run c m s _ E o hl F N fun _ h' tk' e F' N'=>e ▸ wpAny_truthy_bool (hQ h' tk' F' N')) rfl
theorem Te.conv {e : Expr} {b b' : Bool} (h : Te g e b) (q : b = b') : Te g e b' := q ▸ h
theorem Ev.conv {e : Expr} {v v' : PV} (h : Ev g e v) (q : v = v') : Ev g e v' := q ▸ h
-- calls of the text's defs
theorem Ev.call1 {f : Str} {p pos : Pos} {a : Addr} {e : Expr} {D : Nat} {u r : PV} (hf : Ev g (.Name f p) (.v (.ref a))) (h1 : Ev g e u) (hC : ∀ x,u.Is x → Cp g.w g.mean g.mg g.mb a D g.N [x] r) (hD : decide (D ≤ g.D) = true) (hs : ∀ env,starEach [e] env = [(false,eval e env)]) (hk : keepIn (hd.heap_39 g.w.params) (.ref a) = true) : Ev g (.Call (.Name f p) [e] [] pos) r := .mk fun c m s Q E o hl F N hQ =>
  Call_ (hf.run c m s _ E o hl F N fun x h' tk' e1 F' N'=>(show x = .ref a from e1) ▸ callWith_K (o.X.keeps F'.keep) hk (args_cons (h1.run c m { s with heap := h',toks := tk' } _ E o hl F' N' fun y h2 tk2 hy F2 N2=>args_nil ⟨o.X.keeps F2.keep,by
    have hd := of_decide_eq_true hD
    exact hC y hy _ _ _ _ _ _ _ _ _ _ _ _ _ m { s with heap := h2,toks := tk2 } Q E o.B F2 o.X N2 o.T o.k (by have := o.d;omega) (by have := o.u;omega) fun z h3 tk3 hz F3 N3=>hQ z h3 tk3 hz F3 N3⟩) (hs _)) (hs _) rfl) rfl
theorem Ev.call2 {f : Str} {p pos : Pos} {a : Addr} {e e2 : Expr} {D : Nat} {u u2 r : PV} (hf : Ev g (.Name f p) (.v (.ref a))) (h1 : Ev g e u) (h2 : Ev g e2 u2) (hC : ∀ x y,u.Is x → u2.Is y → Cp g.w g.mean g.mg g.mb a D g.N [x,y] r) (hD : decide (D ≤ g.D) = true) (hs : ∀ env,starEach [e,e2] env = [(false,eval e env),(false,eval e2 env)]) (hs2 : ∀ env,starEach [e2] env = [(false,eval e2 env)]) (hk : keepIn (hd.heap_39 g.w.params) (.ref a) = true) : Ev g (.Call (.Name f p) [e,e2] [] pos) r := .mk fun c m s Q E o hl F N hQ =>
  Call_ (hf.run c m s _ E o hl F N fun x h' tk' e1 F' N'=>(show x = .ref a from e1) ▸ callWith_K (o.X.keeps F'.keep) hk (args_cons (h1.run c m { s with heap := h',toks := tk' } _ E o hl F' N' fun y h2' tk2 hy F2 N2=>args_cons (h2.run c m { s with heap := h2',toks := tk2 } _ E o hl F2 N2 fun y2 h3' tk3 hy2 F3 N3=>args_nil ⟨o.X.keeps F3.keep,by
    have hd := of_decide_eq_true hD
    exact hC y y2 hy hy2 _ _ _ _ _ _ _ _ _ _ _ _ _ m { s with heap := h3',toks := tk3 } Q E o.B F3 o.X N3 o.T o.k (by have := o.d;omega) (by have := o.u;omega) fun z h3 tk3 hz F3 N3=>hQ z h3 tk3 hz F3 N3⟩) (by rw [hs2];rfl)) (by rw [hs,hs2])) (by rw [hs,hs2]) (by rw [hs2];rfl)) rfl
-- statements
theorem Ex.ret {e : Expr} {pos : Pos} {rest : List Stmt} {r : PV} (h : Ev g e r) : Ex g (.Return (some e) pos :: rest) r := .mk fun c m s Q E o hl F N hQ =>
  wpAny_execs_cons (wpAny_Return_some (h.run c m s _ E o hl F N fun x h' tk' hx F' N'=>hQ x h' tk' m hx F' N'))
theorem Ex.if_ {t : Expr} {body rest : List Stmt} {pos : Pos} {b : Bool} {r : PV} (h : Te g t b) (h1 : b = true → Ex g body r) (h2 : b = false → Ex g rest r) : Ex g (.If t body [] pos :: rest) r := .mk fun c m s Q E o hl F N hQ =>
  wpAny_execs_cons (wpAny_If (h.run c m s _ E _ o hl F N rfl fun h' tk' F' N'=>by
    cases b with
    | true=>exact (h1 rfl).run c m { s with heap := h',toks := tk' } _ E o hl F' N' fun x h'' tk'' m' hx F'' N''=>hQ x h'' tk'' m' hx F'' N''
    | false=>exact wpAny_execs_nil ((h2 rfl).run c m { s with heap := h',toks := tk' } Q E o hl F' N' fun x h'' tk'' m' hx F'' N''=>hQ x h'' tk'' m' hx F'' N'')))
theorem Ex.ifT {t : Expr} {body rest : List Stmt} {pos : Pos} {b : Bool} {r : PV} (h : Te g t b) (hb : b = true) (h1 : Ex g body r) : Ex g (.If t body [] pos :: rest) r := Ex.if_ h (fun _=>h1) fun q=>by rw [hb] at q;cases q
theorem Ex.ifF {t : Expr} {body rest : List Stmt} {pos : Pos} {b : Bool} {r : PV} (h : Te g t b) (hb : b = false) (h1 : Ex g rest r) : Ex g (.If t body [] pos :: rest) r := Ex.if_ h (fun q=>by rw [hb] at q;cases q) fun _=>h1
theorem Ex.conv {body : List Stmt} {r r' : PV} (h : Ex g body r) (q : r = r') : Ex g body r' := q ▸ h
end
noncomputable def G.set (g : G) (x : Str) (v : PV) : G := { g with ρ := (x,v) :: g.ρ }
theorem locs_set {ρ : Lo} {m : Str → Option Value} {x : Str} {v : PV} {y : Value} (h : Locs ρ m) (hy : v.Is y) : Locs ((x,v) :: ρ) (fun z=>if z = x then some y else m z) := fun z w hz=>by
  rw [List.lookup_cons] at hz
  by_cases e : z = x
  · subst e
    rw [beq_self_eq_true] at hz
    cases hz
    exact ⟨y,if_pos rfl,hy⟩
  · have : (z == x) = false := by simpa using e
    rw [this] at hz
    obtain ⟨q,h1,h2⟩ := h z w hz
    exact ⟨q,(if_neg e).trans h1,h2⟩
section
variable {g : G}
theorem Ok.set {c : Rn} {x : Str} {v : PV} (o : Ok g c) : Ok (g.set x v) c := ⟨o.B,o.X,o.T,o.k,o.d,o.u⟩
theorem Ex.asg {x : Str} {p pos : Pos} {e : Expr} {rest : List Stmt} {v r : PV} (h : Ev g e v) (h2 : Ex (g.set x v) rest r) (hk : (g.f.cs.names.lookup x == some .local) = true) (hs : ∀ env : Env,env.kindOf = (fun y=>g.f.cs.names.lookup y) → swapsWith e (some (.Name x p)) pos.line env = pure false) : Ex g (.Assign [.Name x p] e pos :: rest) r := .mk fun c m s Q E o hl F N hQ =>
  wpAny_execs_cons (wpAny_Assign_Name (h.run c m s _ E o hl F N fun y h' tk' hy F' N'=>storeX_L F' N' (fun h'' F'' N''=>h2.run c _ { s with heap := h'',toks := tk' + 1 } Q E o.set (locs_set hl hy) F'' N'' hQ) o.k (eq_of_beq hk)) (hs _ rfl))
theorem Ex.asg2 {x y : Str} {px py p p2 pos : Pos} {k k2 : Nat} {a b : Expr} {rest : List Stmt} {u v r : PV} (h1 : Ev g a u) (h2 : Ev g b v) (h3 : Ex ((g.set y v).set x u) rest r)
    (hx : (g.f.cs.names.lookup x == some .local) = true) (hy : (g.f.cs.names.lookup y == some .local) = true) (ha : ∀ env,starEach [a,b] env = [(false,eval a env),(false,eval b env)]) (hb : ∀ env,starEach [b] env = [(false,eval b env)])
    (hs : ∀ env : Env,swapsWithSole [.Tuple [.Name x px,.Name y py] k p] (.Tuple [a,b] k2 p2) pos.line env = pure false) (hw : ∀ env : Env,env.scope = g.f.cs → swappedStores [.Tuple [.Name x px,.Name y py] k p] (.Tuple [a,b] k2 p2) env = pure (some [x,y])) : Ex g (.Assign [.Tuple [.Name x px,.Name y py] k p] (.Tuple [a,b] k2 p2) pos :: rest) r := .mk fun c m s Q E o hl F N hQ =>
  wpAny_execs_cons (Assign_Tuple_swapped (names := [x,y]) (Tuple_ (args_cons (h1.run c m s _ E o hl F N fun va h' tk' hva F' N'=>args_cons (h2.run c m { s with heap := h',toks := tk' } _ E o hl F' N' fun vb h2' tk2 hvb F2 N2=>args_nil
    (kup_newTuple (s := { s with heap := h2',toks := tk2 }) F2 N2 (fun D h3' F3 N3 _=>unpackItemsN_ (s := { s with heap := h3',toks := tk2 }) F3 N3 (News.isTup N3 (.head _)) rfl rfl fun h4 F4 N4 =>
      assignInOrder_cons (bindName_ (storeX_L F4 N4 (fun h5 F5 N5=>assignInOrder_cons (bindName_ (storeX_L F5 N5 (fun h6 F6 N6=>assignInOrder_nil (h3.run c _ { s with heap := h6,toks := _ } Q E o.set.set (locs_set (locs_set hl hvb) hva) F6 (fun q hq=>N6 q (.tail _ hq)) hQ)) o.k (eq_of_beq hx)))) o.k (eq_of_beq hy))))
      (by rw [sizeLine_eq];exact (by decide : 2 ≤ 16777216)))) (by rw [hb];rfl)) (by rw [ha,hb]))) (hs _) (hw _ rfl))
end
end
section
noncomputable def jmpBF (n a b c : Str) : Int :=
  99 + (((numF c).fdiv 4096).fmod 2 * 2 ^ Int.toNat 31 + ((numF c).fdiv 32).fmod 64 * 2 ^ Int.toNat 25) +
        (((numF c).fdiv 2).fmod 16 * 2 ^ Int.toNat 8 + ((numF c).fdiv 2048).fmod 2 * 2 ^ Int.toNat 7 + ((brL.idxOf n : Nat) : Int) * 4096) +
      cellF a * 2 ^ Int.toNat 15 + cellF b * 2 ^ Int.toNat 20
noncomputable def jmpUF (k : Int) (a b : Str) : Int := k + cellF a * 128 + numF b * 4096
noncomputable def jmpJF (a b : Str) : Int :=
  111 + cellF a * 128 + (((numF b).fdiv (2 ^ Int.toNat 20)).fmod 2 * 2 ^ Int.toNat 31 + ((numF b).fdiv 2).fmod 1024 * 2 ^ Int.toNat 21) + ((numF b).fdiv 2048).fmod 2 * 2 ^ Int.toNat 20 + ((numF b).fdiv 4096).fmod 256 * 4096
end
section
noncomputable def mvS (n a pi rs : Str) : Int := 35 + (([Str.ofString "sb",Str.ofString "sh",Str.ofString "sw"].idxOf n : Nat) : Int) * 4096 + (numF pi).fmod 32 * 128 + ((numF pi).fdiv 32).fmod 128 * 2 ^ Int.toNat 25 + cellF a * 2 ^ Int.toNat 20 + cellF (Txt.slice rs none (some (-1))) * 2 ^ Int.toNat 15
noncomputable def mvL (k : Int) (a pi rs : Str) : Int := k + cellF a * 128 + cellF (Txt.slice rs none (some (-1))) * 2 ^ Int.toNat 15 + (numF pi).fmod 4096 * 2 ^ Int.toNat 20
noncomputable def wkF (k : Int) (a b : Str) (j : Int) : Int := k + (cellF a * 128 + cellF b * 2 ^ Int.toNat 15) + j
end
section
open PyProof.Rows.LCg PySem.Calls
noncomputable def worthF (x : Str) : Int := if x = Str.ofString "i" then 8 else if x = Str.ofString "o" then 4 else if x = Str.ofString "r" then 2 else if x = Str.ofString "w" then 1 else if x = Str.ofString "0" then 0 else 1000000000
noncomputable def setF (x : Str) : Int := ((List.range x.cps.size).map fun i=>worthF ⟨#[x.cps.getD i 0]⟩).sum
section
variable {prog : Program} {w : World} {A : Around} {E : Value → Shared → Prop} {s : Shared} {h₀ : Heap} {L d : Addr} {news : List (Addr × Obj)} {o : Obj} {Q : Value → Shared → Prop}
theorem get5 {k : Str} {t : Tok} {v1 v2 v3 v4 v5 : Tok} {e : Int} {te : Tok} (N : News h₀ L s.heap news) (hp : (d,o) ∈ news) (hd : o.IsDictOf (PySem.strKind prog w) [(Str.ofString "i",.int 8 v1),(Str.ofString "o",.int 4 v2),(Str.ofString "r",.int 2 v3),(Str.ofString "w",.int 1 v4),(Str.ofString "0",.int 0 v5)]) (lo : (d == sysModules) = false)
    (he : e = 1000000000) (h : ∀ t',Q (.int (worthF k) t') { s with toks := s.toks + 1 }) : wpAny (model prog w) A (call (.builtin "dict.get") [.ref d,.str k t,.int e te]) Q E s := by
  refine kdg_get2 N hp hd lo (strKind_is prog w k t) _ rfl ?_
  have key : ∃ t',(PySem.valueAt [(Str.ofString "i",Value.int 8 v1),(Str.ofString "o",.int 4 v2),(Str.ofString "r",.int 2 v3),(Str.ofString "w",.int 1 v4),(Str.ofString "0",.int 0 v5)] k).getD (.int e te) = .int (worthF k) t' := by
    unfold worthF
    by_cases q1 : k = Str.ofString "i"
    · subst q1;exact ⟨v1,rfl⟩
    by_cases q2 : k = Str.ofString "o"
    · subst q2;exact ⟨v2,rfl⟩
    by_cases q3 : k = Str.ofString "r"
    · subst q3;exact ⟨v3,rfl⟩
    by_cases q4 : k = Str.ofString "w"
    · subst q4;exact ⟨v4,rfl⟩
    by_cases q5 : k = Str.ofString "0"
    · subst q5;exact ⟨v5,rfl⟩
    refine ⟨te,?_⟩
    rw [if_neg q1,if_neg q2,if_neg q3,if_neg q4,if_neg q5,he]
    unfold PySem.valueAt
    simp [Ne.symm q1,Ne.symm q2,Ne.symm q3,Ne.symm q4,Ne.symm q5]
  obtain ⟨t',e'⟩ := key
  rw [e']
  exact h t'
variable {m : Str → Option Value}
theorem made_item {value slice : PySem.Expr} {P : Addr} {ys : List Value} {g : Nat → Int} {n i : Nat} {k : Int} {u : Tok} (N : News h₀ L s.heap news) (hm : (P,lst ys) ∈ news) (hy : ∀ i,i < n → ∃ y,ys[i]? = some y ∧ ∃ t,y = Value.int (g i) t) (hi : i < n) (hk : k = (i : Int)) (hk2 : k < 2 ^ 63) (h : ∀ t,Q (.int (g i) t) s)
    (hs : subscripted slice false (.ref P) (.int k u) = operate [.ref P,.int k u] (getItem (.ref P) (.int k u)) := by with_unfolding_all rfl) (hg : ∀ r,letTemporaryGo value (.ref P) r = pure () := by intro _;with_unfolding_all rfl) :
    wpAny (model prog w) A (subscriptTail value slice (.ref P) (.int k u)) Q E s := by
  obtain ⟨y,e,t,rfl⟩ := hy i hi
  subst hk
  exact item_list (News.isList N hm) (Int.natCast_nonneg _) hk2 (by simpa using e) (h t) hs hg
end
theorem two_str {a b : Str} {ta tb : Tok} {i : Nat} {v : Value} (h : ([Value.str a ta,Value.str b tb] : List Value)[i]? = some v) : ∃ x t,v = .str x t ∧ x = [a,b].getD i Str.empty := by
  cases i with
  | zero=>cases h;exact ⟨a,ta,rfl,rfl⟩
  | succ i=>cases i with
    | zero=>cases h;exact ⟨b,tb,rfl,rfl⟩
    | succ i=>simp at h
theorem two_ok {P : Str → Prop} {a b : Str} {i : Nat} (ha : P a) (hb : P b) (hi : i < 2) : P ([a,b].getD i Str.empty) := by
  have : i = 0 ∨ i = 1 := by omega
  rcases this with rfl | rfl
  · exact ha
  · exact hb
theorem sign_worth {x : Str} {i : Nat} {v : Value} (h : SignAt x i v) : ∃ t,v = .str ⟨#[x.cps.getD i 0]⟩ t := by
  obtain ⟨c,u,e,rfl⟩ := h
  refine ⟨u,?_⟩
  have : x.cps.getD i 0 = c := by simp [Array.getD_eq_getD_getElem?,e]
  rw [this]
end
section
inductive JumpR : Str → List Str → Int → Prop
  | fence {a b : Str} : a.length ≤ 600 → b.length ≤ 600 → a.cps.all (· < 128) = true → b.cps.all (· < 128) = true → JumpR (Str.ofString "fence") [a,b] (15 + (16 * setF a + setF b) * 2 ^ Int.toNat 20)
  | lui {a b : Str} : b.length ≤ 600 → JumpR (Str.ofString "lui") [a,b] (jmpUF 55 a b)
  | auipc {a b : Str} : b.length ≤ 600 → JumpR (Str.ofString "auipc") [a,b] (jmpUF 23 a b)
  | jal {a b : Str} : b.length ≤ 600 → -(2 ^ Int.toNat 20) ≤ numF b → numF b < 2 ^ Int.toNat 20 → ((numF b).fmod 2 == 0) = true → JumpR (Str.ofString "jal") [a,b] (jmpJF a b)
  | branch {n a b c : Str} : ([Str.ofString "lui",Str.ofString "auipc"].any fun x=>x == n) = false → (n == Str.ofString "fence") = false → (n == Str.ofString "jal") = false → (brL.any fun x=>x == n) = true → c.length ≤ 600 → -4096 ≤ numF c → numF c < 4096 → ((numF c).fmod 2 == 0) = true → JumpR n [a,b,c] (jmpBF n a b c)
theorem vs_two {vs : List Value} {a b : Str} (h : StrsAre vs [a,b]) : ∃ ta tb,vs = [.str a ta,.str b tb] := by
  rcases h with _ | ⟨_,ta,h⟩;rcases h with _ | ⟨_,tb,h⟩;cases h;exact ⟨ta,tb,rfl⟩
theorem vs_three {vs : List Value} {a b c : Str} (h : StrsAre vs [a,b,c]) : ∃ ta tb tc,vs = [.str a ta,.str b tb,.str c tc] := by
  rcases h with _ | ⟨_,ta,h⟩;rcases h with _ | ⟨_,tb,h⟩;rcases h with _ | ⟨_,tc,h⟩;cases h;exact ⟨ta,tb,tc,rfl⟩
inductive MoveR : Str → List Str → Int → Prop
  | store {n a p pi rs : Str} : p.length ≤ 600 → pi.length ≤ 600 → rs.length ≤ 600 → (Txt.partition p (Str.ofString "(")).1 = pi → (Txt.partition p (Str.ofString "(")).2.1 = Str.ofString "(" → (Txt.partition p (Str.ofString "(")).2.2 = rs → (Txt.slice rs (some (-1)) none != Str.ofString ")") = false → -2048 ≤ numF pi → numF pi < 2048 →
      ([Str.ofString "sb",Str.ofString "sh",Str.ofString "sw"].any fun x=>x == n) = true → MoveR n [a,p] (mvS n a pi rs)
  | load {n a p pi rs : Str} : p.length ≤ 600 → pi.length ≤ 600 → rs.length ≤ 600 → (Txt.partition p (Str.ofString "(")).1 = pi → (Txt.partition p (Str.ofString "(")).2.1 = Str.ofString "(" → (Txt.partition p (Str.ofString "(")).2.2 = rs → (Txt.slice rs (some (-1)) none != Str.ofString ")") = false → -2048 ≤ numF pi → numF pi < 2048 →
      ([Str.ofString "sb",Str.ofString "sh",Str.ofString "sw"].any fun x=>x == n) = false → (n == Str.ofString "jalr") = false → (feL.any fun x=>x == n) = true → MoveR n [a,p] (mvL (3 + ((feL.idxOf n : Nat) : Int) * 4096) a pi rs)
  | jalr {a p pi rs : Str} : p.length ≤ 600 → pi.length ≤ 600 → rs.length ≤ 600 → (Txt.partition p (Str.ofString "(")).1 = pi → (Txt.partition p (Str.ofString "(")).2.1 = Str.ofString "(" → (Txt.partition p (Str.ofString "(")).2.2 = rs → (Txt.slice rs (some (-1)) none != Str.ofString ")") = false → -2048 ≤ numF pi → numF pi < 2048 →
      MoveR (Str.ofString "jalr") [a,p] (mvL 103 a pi rs)
noncomputable def wkR (a b c : Str) : Int := 51 + (cellF a * 128 + cellF b * 2 ^ Int.toNat 15) + cellF c * 2 ^ Int.toNat 20
noncomputable def wkH (lo hi : Int) (a b c : Str) : Int := 19 + lo * 4096 + (cellF a * 128 + cellF b * 2 ^ Int.toNat 15) + numF c * 2 ^ Int.toNat 20 + hi * 2 ^ Int.toNat 25
inductive WorkR : Str → List Str → Int → Prop
  | slli {a b c : Str} : c.length ≤ 600 → 0 ≤ numF c → numF c < 32 → WorkR (Str.ofString "slli") [a,b,c] (wkH 1 0 a b c)
  | srli {a b c : Str} : c.length ≤ 600 → 0 ≤ numF c → numF c < 32 → WorkR (Str.ofString "srli") [a,b,c] (wkH 5 0 a b c)
  | srai {a b c : Str} : c.length ≤ 600 → 0 ≤ numF c → numF c < 32 → WorkR (Str.ofString "srai") [a,b,c] (wkH 5 32 a b c)
  | imm {n a b c : Str} : c.length ≤ 600 → ([Str.ofString "slli",Str.ofString "srli",Str.ofString "srai"].any fun x=>x == n) = false → (wfL.any fun x=>x == n) = true → -2048 ≤ numF c → numF c < 2048 → WorkR n [a,b,c] (19 + ((wfL.idxOf n : Nat) : Int) * 4096 + (cellF a * 128 + cellF b * 2 ^ Int.toNat 15) + (numF c).fmod 4096 * 2 ^ Int.toNat 20)
  | times {n a b c : Str} : c.length ≤ 600 → ([Str.ofString "slli",Str.ofString "srli",Str.ofString "srai"].any fun x=>x == n) = false → (wfL.any fun x=>x == n) = false → (tiL.any fun x=>x == n) = true → WorkR n [a,b,c] (wkR a b c + ((tiL.idxOf n : Nat) : Int) * 4096 + 2 ^ Int.toNat 25)
  | cells {n a b c : Str} : c.length ≤ 600 → ([Str.ofString "slli",Str.ofString "srli",Str.ofString "srai"].any fun x=>x == n) = false → (wfL.any fun x=>x == n) = false → (tiL.any fun x=>x == n) = false → (wcL.any fun x=>x == n) = true → WorkR n [a,b,c] (wkR a b c + ((wcL.idxOf n : Nat) : Int) * 4096)
  | sub {a b c : Str} : c.length ≤ 600 → WorkR (Str.ofString "sub") [a,b,c] (wkR a b c + 0 * 4096 + 2 ^ Int.toNat 30)
  | sra {a b c : Str} : c.length ≤ 600 → WorkR (Str.ofString "sra") [a,b,c] (wkR a b c + 5 * 4096 + 2 ^ Int.toNat 30)
end
section
theorem split_k {w : World} {A : Around} {E : Value → Shared → Prop} {s : Shared} {h₀ : Heap} {L : Addr} {m : Str → Option Value} {prog : Program} {news : List (Addr × Obj)} {x y : Str} {ps : List Str} {t u : Tok} {Q : Value → Shared → Prop} (hF : Fr h₀ L s.heap m) (hN : News h₀ L s.heap news) (hy : (y.length == 0) = false) (hs : Txt.split x y = ps) (hsz : x.length + 2 ≤ sizeLine)
    (h : ∀ D vs h' k,StrsAre vs ps → Fr h₀ L h' m → News h₀ L h' ((D,listOf (List.toArray vs) 0) :: news) → (∀ p ∈ news,p.1 < D) → Q (.ref D) { s with heap := h',toks := k }) :
    wpAny (model prog w) A (call (.builtin "str.split") [.str x t,.str y u]) Q E s :=
  KSpl.split1 hF hN hy (fun D l h' k e sa F N lt=>h D (strValues l) h' k (by rw [← hs,← e];exact sa) F N lt) hsz
end
section
open PySem.Calls
inductive Lg : Lo → List (Str × Value) → Prop
  | nil : Lg [] []
  | cons {x : Str} {v : PV} {y : Value} {ρ : Lo} {l : List (Str × Value)} : v.Is y → Lg ρ l → Lg ((x,v) :: ρ) ((x,y) :: l)
theorem Lg.locs {ρ : Lo} {l : List (Str × Value)} (h : Lg ρ l) : Locs ρ (fun y=>l.lookup y) := by
  induction h with
  | nil=>exact fun _ _ h=>by cases h
  | @cons x v y ρ l hv _ ih =>
    intro z w hz
    by_cases e : z = x
    · subst e
      rw [List.lookup_cons,beq_self_eq_true] at hz
      cases hz
      refine ⟨y,?_,hv⟩
      show List.lookup z ((z,y) :: l) = _
      rw [List.lookup_cons,beq_self_eq_true]
    · have e2 : (z == x) = false := by simpa using e
      rw [List.lookup_cons,e2] at hz
      obtain ⟨q,h1,h2⟩ := ih z w hz
      refine ⟨q,?_,h2⟩
      show List.lookup z ((x,y) :: l) = _
      rw [List.lookup_cons,e2];exact h1
theorem enter {w : World} {mean : ExcName → Option Value} {mg mb : Str → Option Value} {f : Addr} {D : Nat} {news : List (Addr × Obj)} {vs : List Value} {r : PV} {name qual : Str} {params : Arguments} {body : List Stmt} {scope : Scope} {dV kV doc pm cdv ct oc : Value} {an od : Option Addr} {osl : Array (Option Value)} {binds : List (Str × Value)} {ρ : Lo}
    (ho : (hd.heap_39 w.params).lookup f = some ⟨oc,od,.func (fnOf name qual params body scope dV kV doc pm an cdv ct),osl⟩) (hcd : codeIn (hd.heap_39 w.params) cdv qual = true)
    (hbind : ∀ s,BindsTo s (fnOf name qual params body scope dV kV doc pm an cdv ct) ⟨vs,[]⟩ binds) (hloc : (binds.all fun x=>decide (scope.names.lookup x.1 = some .local)) = true) (hρ : Lg ρ binds.reverse)
    (hco : scope.isCoroutine = false) (hgen : scope.isGenerator = false) (hk : scope.kind = .function) (hcell : ∀ x ∈ scope.names,x.2 ≠ .cell)
    (h : Ex ⟨w,mean,mg,mb,⟨qual,scope,f,cdv⟩,D,news,ρ⟩ body r) : Cp w mean mg mb f (D + 1) news vs r := by
  intro dp un gd cn cs a ccd cl outer A₀ base h₀ L m s Q E B F X N T hks hd hu hQ
  refine wpAny_call (code_def B F X N T rfl rfl hks ho hcd (by show dp < recursionLimit;omega) (hbind s) (locs hloc) (fun g L' h₁ FG F' N' B' X' T'=>?_) hco hgen hk hcell)
  exact h.run ⟨dp + 1,un + 3,gd,[],envX cn cs L a ccd cl :: outer,ktrTop dp un gd cn cs L a ccd cl outer,base,g,L'⟩ _ { s with heap := h₁,toks := s.toks + binds.length } _ _
    ⟨B',X',T',hk,by show dp + 1 + D < recursionLimit;omega,by show un + 3 + 8 * D < cLine;omega⟩ hρ.locs F' N' fun x h' tk' m' hx F'' N''=>leaveK_ F'' N'' fun F3 N3=>hQ x h' tk' hx F3 N3
theorem enterC {w : World} {mean : ExcName → Option Value} {mg mb : Str → Option Value} {f : Addr} {D : Nat} {news : List (Addr × Obj)} {vs : List Value} {r : PV} {name qual : Str} {params : Arguments} {body : List Stmt} {scope : Scope} {dV kV doc pm cdv ct oc : Value} {an od : Option Addr} {osl : Array (Option Value)} {binds : List (Str × Value)} {ρ : Lo}
    (ho : (hd.heap_39 w.params).lookup f = some ⟨oc,od,.func (fnOf name qual params body scope dV kV doc pm an cdv ct),osl⟩) (hcd : codeIn (hd.heap_39 w.params) cdv qual = true)
    (hbind : ∀ s,BindsTo s (fnOf name qual params body scope dV kV doc pm an cdv ct) ⟨vs,[]⟩ binds) (hloc : (binds.all fun y=>scope.names.lookup y.1 == some .local || scope.names.lookup y.1 == some .cell) = true) (hnd : ((cellsFrom 0 scope.names []).map (·.1)).Nodup)
    (hρ : ∀ kd : Str → Option NameKind,kd = (fun y=>scope.names.lookup y) → Locs ρ (bindL kd binds fun _=>none))
    (hco : scope.isCoroutine = false) (hgen : scope.isGenerator = false) (hk : scope.kind = .function)
    (h : Ex ⟨w,mean,mg,mb,⟨qual,scope,f,cdv⟩,D,news,ρ⟩ body r) : Cp w mean mg mb f (D + 1) news vs r := by
  intro dp un gd cn cs a ccd cl outer A₀ base h₀ L m s Q E B F X N T hks hd hu hQ
  refine wpAny_call (code_defC B F X N T rfl rfl hks ho hcd (by show dp < recursionLimit;omega) (hbind s) hloc hnd (fun g L' h₁ tk cells FG F' N' _ B' X' T' _=>?_) hco hgen hk)
  exact h.run ⟨dp + 1,un + 3,gd,cellsFrom (L' + 1) scope.names [],envX cn cs L a ccd cl :: outer,ktrTop dp un gd cn cs L a ccd cl outer,base,g,L'⟩ _ { s with heap := h₁,toks := tk } _ _
    ⟨B',X',T',hk,by show dp + 1 + D < recursionLimit;omega,by show un + 3 + 8 * D < cLine;omega⟩ (hρ _ rfl) F' (fun p hp=>N' p (List.mem_append_right _ hp)) fun x h' tk' m' hx F'' N''=>leaveK_ F'' N'' fun F3 N3=>hQ x h' tk' hx F3 N3
section
variable {g : G}
noncomputable def SubI (value slice : Expr) : Prop := (∀ P k u,subscripted slice false (.ref P) (.int k u) = operate [.ref P,.int k u] (getItem (.ref P) (.int k u))) ∧ ∀ P r,letTemporaryGo value (.ref P) r = pure ()
noncomputable def SubS (value slice : Expr) : Prop := (∀ x t P,subscripted slice false (.str x t) (.ref P) = operate [.ref P,.str x t] (getItem (.str x t) (.ref P))) ∧ ∀ x t r,letTemporaryGo value (.str x t) r = pure ()
theorem Ev.item {o i : Expr} {pos : Pos} {P : Addr} {vs : List Value} {n : Nat} {k : Int} {y : Str} {t : Tok} (h1 : Ev g o (.v (.ref P))) (h2 : Ev g i (.i k)) (hm : (P,listOf (List.toArray vs) n) ∈ g.N) (hk : decide (0 ≤ k ∧ k < 2 ^ 63) = true) (hx : vs[k.toNat]? = some (.str y t)) (hs : SubI o i) : Ev g (.Subscript o i pos) (.s y) := .mk fun c m s Q E ok hl F N hQ =>
  Subscript_ (h1.run c m s _ E ok hl F N fun x h' tk' e1 F' N'=>(show x = .ref P from e1) ▸ h2.run c m { s with heap := h',toks := tk' } _ E ok hl F' N' fun _ h2' tk2 ⟨u,e2⟩ F2 N2=>e2 ▸ part_item N2 hm (of_decide_eq_true hk) hx (hQ _ h2' tk2 ⟨t,rfl⟩ F2 N2) (hs.1 _ _ _) (hs.2 _))
theorem Ev.last {o : Expr} {p1 p2 pos : Pos} {kk : Nat} {P : Addr} {vs : List Value} {n : Nat} {y : Str} {t : Tok} (h1 : Ev g o (.v (.ref P))) (hm : (P,listOf (List.toArray vs) n) ∈ g.N) (hx : vs.getLast? = some (.str y t)) (hs : SubI o (.UnaryOp .USub (.Constant (.int 1) kk p1) p2)) : Ev g (.Subscript o (.UnaryOp .USub (.Constant (.int 1) kk p1) p2) pos) (.s y) := .mk fun c m s Q E ok hl F N hQ =>
  Subscript_ (h1.run c m s _ E ok hl F N fun x h' tk' e1 F' N'=>(show x = .ref P from e1) ▸ (Ev.neg Ev.int).run c m { s with heap := h',toks := tk' } _ E ok hl F' N' fun _ h2' tk2 ⟨u,e2⟩ F2 N2=>e2 ▸ part_last N2 hm hx (hQ _ h2' tk2 ⟨t,rfl⟩ F2 N2) (hs.1 _ _ _) (hs.2 _))
theorem Ev.len {o : Expr} {p pos : Pos} {P : Addr} {vs : List Value} {n : Nat} {k : Int} (h1 : Ev g o (.v (.ref P))) (hm : (P,listOf (List.toArray vs) n) ∈ g.N) (hl : (vs.length : Int) = k) (hk : decide (k ≤ 1000) = true)
    (hn : (g.f.cs.names.lookup ("len" : Str) == some .globalImplicit) = true) (hg : nsIn (hd.heap_39 g.w.params) mainGlobals ("len" : Str) = some none) (hs : ∀ env,starEach [o] env = [(false,eval o env)]) : Ev g (.Call (.Name "len" p) [o] [] pos) (.i k) := .mk fun c m s Q E ok hlo F N hQ =>
  Call_ (nameX_B F ok.X (topRead_of ok.T) hg boot_len (by decide) (callWith_builtin1 (args_cons (h1.run c m s _ E ok hlo F N fun x h' tk' e1 F' N'=>(show x = .ref P from e1) ▸ args_nil (part_len N' hm hl (of_decide_eq_true hk) (hQ _ h' _ ⟨_,rfl⟩ F' N'))) (hs _)) (hs _) rfl) ok.k (eq_of_beq hn) (by decide)) rfl
noncomputable def Mc (o : Expr) (name : Str) (ap : Pos) (args : List Expr) (pos : Pos) : Prop := ∃ pl : Env → Sem Bool,∀ env : Env,eval (.Call (.Attribute o name ap) args [] pos) env = (do
      let ov ← eval o env
      standAt ap.atName
      let (f,first) ← holding [ov] (getMethod ov name (pl env))
      callWith pos f first (backTo pos (starEach args env)) [])
theorem Ev.idxK {o e : Expr} {ap pos : Pos} {a : Addr} {l : List Str} {x : Str} (h1 : Ev g o (.v (.ref a))) (h2 : Ev g e (.s x)) (H : ∀ {w : World} {h : Heap},(hd.heap_39 w.params).In h → TupK h a l) (hb : (l.any fun y=>y == x) = true) (hs : ∀ env,starEach [e] env = [(false,eval e env)]) (hc : Mc o "index" ap [e] pos) :
    Ev g (.Call (.Attribute o "index" ap) [e] [] pos) (.i ((l.idxOf x : Nat) : Int)) := .mk fun c m s Q E ok hl F N hQ =>
  let ⟨pl,hpl⟩ := hc
  MethodCall_ (h1.run c m s _ E ok hl F N fun _ h' tk' e1 F' N'=>(show _ = Value.ref a from e1) ▸ meth_tupK F' (H ok.X) (callWith_method1 (args_cons (h2.run c m { s with heap := h',toks := tk' } _ E ok hl F' N' fun _ h2' tk2 ⟨t,e2⟩ F2 N2=>e2 ▸ args_nil (idx_tupK F2 (H ok.X) hb (hQ _ h2' _ ⟨_,rfl⟩ F2 N2))) (hs _)) (hs _) rfl)) (hpl _)
theorem Ev.idxW {es : List Expr} {e : Expr} {k : Nat} {p ap pos : Pos} {l : List Str} {x : Str} (h1 : Ws es l) (h2 : ∀ N,Ev { g with N := N } e (.s x)) (hb : (l.any fun y=>y == x) = true) (hl : l.length ≤ 40) (hs : ∀ env,starEach [e] env = [(false,eval e env)]) (hc : Mc (.Tuple es k p) "index" ap [e] pos) :
    Ev g (.Call (.Attribute (.Tuple es k p) "index" ap) [e] [] pos) (.i ((l.idxOf x : Nat) : Int)) := .mk fun c m s Q E ok hlo F N hQ =>
  let ⟨pl,hpl⟩ := hc
  MethodCall_ (Tuple_ (h1.run g c p m s _ E F N fun vs tk' hvs=>kup_newTuple (s := { s with toks := tk' }) F N (fun D h' F' N' _=>meth_tupN N' (.head _) (callWith_method1 (args_cons ((h2 ((D,{ cls := .type "tuple",data := .seq (List.toArray vs) }) :: g.N)).run c m { s with heap := h',toks := tk' } _ E ⟨ok.B,ok.X,ok.T,ok.k,ok.d,ok.u⟩ hlo F' N' fun _ h2' tk2 ⟨t,e2⟩ F2 N2 =>
    e2 ▸ args_nil (idx_tupN N2 (.head _) hvs hb (hQ _ h2' _ ⟨_,rfl⟩ F2 fun q hq=>N2 q (.tail _ hq)))) (hs _)) (hs _) rfl)) (by rw [strs_len hvs,sizeLine_eq];omega))) (hpl _)
theorem Ev.slT {o b : Expr} {sp pos : Pos} {x : Str} {j : Int} (h1 : Ev g o (.s x)) (h2 : Ev g b (.i j)) (hx : x.length ≤ 1000) (hs : SubS o (.Slice none (some b) none sp)) : Ev g (.Subscript o (.Slice none (some b) none sp) pos) (.s (Txt.slice x none (some j))) := .mk fun c m s Q E ok hl F N hQ =>
  Subscript_ (h1.run c m s _ E ok hl F N fun _ h' tk' ⟨t,e1⟩ F' N'=>e1 ▸ wpAny_Slice (evalPart_none_step (evalPart_some_step (h2.run c m { s with heap := h',toks := tk' } _ E ok hl F' N' fun _ h2' tk2 ⟨u,e2⟩ F2 N2=>e2 ▸ evalPart_none_step
    (slice_strN_ns_len (s := { s with heap := h2',toks := tk2 }) F2 N2 (fun h3 t3 k3 F3 N3 _=>hQ _ h3 k3 ⟨t3,rfl⟩ F3 N3) (hs.1 _ _ _) (hs.2 _ _) (by rw [sizeLine_eq];omega))))))
theorem Ev.slF {o b : Expr} {sp pos : Pos} {x : Str} {j : Int} (h1 : Ev g o (.s x)) (h2 : Ev g b (.i j)) (hx : x.length ≤ 1000) (hs : SubS o (.Slice (some b) none none sp)) : Ev g (.Subscript o (.Slice (some b) none none sp) pos) (.s (Txt.slice x (some j) none)) := .mk fun c m s Q E ok hl F N hQ =>
  Subscript_ (h1.run c m s _ E ok hl F N fun _ h' tk' ⟨t,e1⟩ F' N'=>e1 ▸ wpAny_Slice (evalPart_some_step (h2.run c m { s with heap := h',toks := tk' } _ E ok hl F' N' fun _ h2' tk2 ⟨u,e2⟩ F2 N2=>e2 ▸ evalPart_none_step (evalPart_none_step
    (slice_strN_sn_len (s := { s with heap := h2',toks := tk2 }) F2 N2 (fun h3 t3 k3 F3 N3 _=>hQ _ h3 k3 ⟨t3,rfl⟩ F3 N3) (hs.1 _ _ _) (hs.2 _ _) (by rw [sizeLine_eq];omega))))))
-- displays of a dict
structure Pr (ks : List (Option Expr)) (es : List Expr) (l : List (Str × Int)) : Prop where
  run : ∀ (g : G) (c : Rn) (pos : Pos) (m : Str → Option Value) (s : Shared) (Q : List (Value × Value) → Shared → Prop) (E : Value → Shared → Prop),Ok g c → Locs g.ρ m → Fr c.h₀ c.L s.heap m → News c.h₀ c.L s.heap g.N →
  (∀ vs h' tk',allStrKeys vs = true → (∃ ts : List Tok,strPairs vs = (l.zip ts).map (fun p=>(p.1.1,Value.int p.1.2 p.2)) ∧ ts.length = l.length) → Fr c.h₀ c.L h' m → News c.h₀ c.L h' g.N → Q vs { s with heap := h',toks := tk' }) → wpAny (model PRG g.w) (c.A g.f) (evalPairs (pairTrees ks es (c.env g.f) pos)) Q E s
theorem Pr.nil : Pr [] [] [] := .mk fun _ _ _ _ s _ _ _ _ F N hQ=>pairTrees_nil_walk (hQ [] s.heap s.toks rfl ⟨[],rfl,rfl⟩ F N)
theorem Pr.cons {x : Str} {k : Nat} {p : Pos} {e : Expr} {n : Int} {ks : List (Option Expr)} {es : List Expr} {l : List (Str × Int)} (h1 : ∀ g,Ev g e (.i n)) (h2 : Pr ks es l) : Pr (some (.Constant (.str x) k p) :: ks) (e :: es) ((x,n) :: l) := .mk fun g c pos m s Q E ok hl F N hQ =>
  pairTrees_cons_walk (Constant_str ((h1 g).run c m _ _ E ok hl F N fun _ h' tk' ⟨t,e1⟩ F' N'=>e1 ▸ h2.run g c pos m { s with heap := h',toks := tk' } _ E ok hl F' N' fun vs h2' tk2 ha ⟨ts,hp,hts⟩ F2 N2=>hQ _ h2' tk2 (by show allStrKeys vs = true;exact ha) ⟨t :: ts,by show (x,Value.int n t) :: strPairs vs = _;rw [hp];rfl,congrArg (· + 1) hts⟩ F2 N2))
noncomputable def lookI : List (Str × Int) → Str → Option Int
  | [],_=>none
  | (k,v) :: r,n=>if k = n then some v else lookI r n
theorem look_val {n : Str} {l : List (Str × Int)} : ∀ {ts : List Tok},ts.length = l.length → (lookI l n = none → valueAt ((l.zip ts).map (fun p=>(p.1.1,Value.int p.1.2 p.2))) n = none) ∧ (∀ i,lookI l n = some i → ∃ t,valueAt ((l.zip ts).map (fun p=>(p.1.1,Value.int p.1.2 p.2))) n = some (.int i t)) := by
  induction l with
  | nil=>exact fun _=>⟨fun _=>by simp [valueAt],fun i h=>by cases h⟩
  | cons p l ih =>
    obtain ⟨k,v⟩ := p
    intro ts h
    cases ts with
    | nil=>cases h
    | cons t ts =>
      have ih := ih (ts := ts) (by simpa using h)
      unfold lookI
      by_cases e : k = n
      · rw [if_pos e]
        refine ⟨fun q=>(nomatch q),fun i q=>⟨t,?_⟩⟩
        cases q
        simp [valueAt,e]
      · rw [if_neg e]
        have e2 : ∀ r : List (Str × Value),valueAt ((k,Value.int v t) :: r) n = valueAt r n := fun r=>by simp [valueAt,e]
        show (_ → valueAt ((k,Value.int v t) :: _) n = none) ∧ ∀ i,_ → ∃ t',valueAt ((k,Value.int v t) :: _) n = some (.int i t')
        rw [e2]
        exact ih
theorem pairs_fst {l : List (Str × Int)} : ∀ {ts : List Tok},ts.length = l.length → ((l.zip ts).map (fun p=>(p.1.1,Value.int p.1.2 p.2))).map (·.1) = l.map (·.1) := by
  induction l with
  | nil=>intro ts _;rfl
  | cons p l ih =>
    intro ts h
    cases ts with
    | nil=>cases h
    | cons t ts=>show p.1 :: _ = p.1 :: _;rw [← ih (by simpa using h)];rfl
theorem mk_dict {ks : List (Option Expr)} {es : List Expr} {l : List (Str × Int)} {p : Pos} (hp : Pr ks es l) (hc : (strLits ks && (ks.all (·.isSome) && (decide (ks.length = es.length) && (decide (ks ≠ []) && (decide (ks.length ≤ 15) && decide (l.map (·.1)).Nodup))))) = true)
    (c : Rn) (m : Str → Option Value) (s : Shared) (Q E : Value → Shared → Prop) (ok : Ok g c) (hl : Locs g.ρ m) (F : Fr c.h₀ c.L s.heap m) (N : News c.h₀ c.L s.heap g.N)
    (hQ : ∀ d o kvs h' tk',(d == sysModules) = false → o.IsDictOf (PySem.strKind PRG g.w) kvs → (∃ ts : List Tok,kvs = (l.zip ts).map (fun p=>(p.1.1,Value.int p.1.2 p.2)) ∧ ts.length = l.length) → Fr c.h₀ c.L h' m → News c.h₀ c.L h' ((d,o) :: g.N) → Q (.ref d) { s with heap := h',toks := tk' }) :
    wpAny (model PRG g.w) (c.A g.f) (eval (.Dict ks es p) (c.env g.f)) Q E s := by
  simp only [Bool.and_eq_true,decide_eq_true_eq] at hc
  obtain ⟨c1,c2,c3,c4,c5,c6⟩ := hc
  refine kdn_str c1 F N ok.T.nolimit c2 c3 c4 c5 fun d h' o F' N' lt lo hd=>?_
  refine hp.run { g with N := (d,o) :: g.N } c p m { s with heap := h' } _ E ⟨ok.B,ok.X,ok.T,ok.k,ok.d,ok.u⟩ hl F' N' fun vs h2 tk2 ha ⟨ts,hs,hts⟩ F2 N2=>?_
  refine kdn_made_str (s := { s with heap := h2,toks := tk2 }) F2 N2 (UpdF.head fun q hq=>Nat.ne_of_lt (lt q hq)) hd ha (by rw [hs,pairs_fst hts];exact c6) fun h3 o' F3 N3 hd3=>?_
  exact hQ d o' _ h3 _ lo hd3 ⟨ts,hs,hts⟩ F3 N3
theorem Ev.dget {ks : List (Option Expr)} {es : List Expr} {l : List (Str × Int)} {p ap pos : Pos} {e d : Expr} {n : Str} {j r : Int} (hp : Pr ks es l) (h1 : ∀ N,Ev { g with N := N } e (.s n)) (h2 : ∀ g,Ev g d (.i j)) (hr : (lookI l n).getD j = r) (hc : (strLits ks && (ks.all (·.isSome) && (decide (ks.length = es.length) && (decide (ks ≠ []) && (decide (ks.length ≤ 15) && decide (l.map (·.1)).Nodup))))) = true)
    (hs : ∀ env,starEach [e,d] env = [(false,eval e env),(false,eval d env)]) (hs2 : ∀ env,starEach [d] env = [(false,eval d env)]) (hm : Mc (.Dict ks es p) "get" ap [e,d] pos) : Ev g (.Call (.Attribute (.Dict ks es p) "get" ap) [e,d] [] pos) (.i r) := .mk fun c m s Q E ok hlo F N hQ =>
  let ⟨pl,hpl⟩ := hm
  MethodCall_ (mk_dict hp hc c m s _ E ok hlo F N fun dd o kvs h' tk' lo hd ⟨ts,hk,hts⟩ F' N'=>kdg_method N' (.head _) hd (callWith_method1 (args_cons ((h1 ((dd,o) :: g.N)).run c m { s with heap := h',toks := tk' } _ E ⟨ok.B,ok.X,ok.T,ok.k,ok.d,ok.u⟩ hlo F' N' fun _ h2' tk2 ⟨t,e2⟩ F2 N2=>e2 ▸
    args_cons ((h2 { g with N := (dd,o) :: g.N }).run c m { s with heap := h2',toks := tk2 } _ E ⟨ok.B,ok.X,ok.T,ok.k,ok.d,ok.u⟩ hlo F2 N2 fun _ h3' tk3 ⟨u,e3⟩ F3 N3=>e3 ▸ args_nil (kdg_get2 N3 (.head _) hd lo (strKind_is _ _ _ _) _ rfl (by
      obtain ⟨k1,k2⟩ := look_val (n := n) hts
      rw [hk]
      cases q : lookI l n with
      | none=>rw [k1 q];rw [q] at hr;exact hQ _ h3' _ ⟨u,by rw [← hr];rfl⟩ F3 fun z hz=>N3 z (.tail _ hz)
      | some i=>obtain ⟨t',q2⟩ := k2 i q;rw [q2];rw [q] at hr;exact hQ _ h3' _ ⟨t',by rw [← hr];rfl⟩ F3 fun z hz=>N3 z (.tail _ hz)))) (by rw [hs2];rfl)) (by rw [hs,hs2])) (by rw [hs,hs2]) (by rw [hs2];rfl))) (hpl _)
theorem Ev.ditem {ks : List (Option Expr)} {es : List Expr} {l : List (Str × Int)} {p pos : Pos} {e : Expr} {n : Str} {r : Int} (hp : Pr ks es l) (h1 : ∀ N,Ev { g with N := N } e (.s n)) (hr : lookI l n = some r) (hc : (strLits ks && (ks.all (·.isSome) && (decide (ks.length = es.length) && (decide (ks ≠ []) && (decide (ks.length ≤ 15) && decide (l.map (·.1)).Nodup))))) = true)
    (hs : ∀ d x t,subscripted e false (.ref d) (.str x t) = operate [.ref d,.str x t] (getItem (.ref d) (.str x t))) : Ev g (.Subscript (.Dict ks es p) e pos) (.i r) := .mk fun c m s Q E ok hlo F N hQ =>
  Subscript_ (mk_dict hp hc c m s _ E ok hlo F N fun dd o kvs h' tk' lo hd ⟨ts,hk,hts⟩ F' N'=>(h1 ((dd,o) :: g.N)).run c m { s with heap := h',toks := tk' } _ E ⟨ok.B,ok.X,ok.T,ok.k,ok.d,ok.u⟩ hlo F' N' fun _ h2' tk2 ⟨t,e2⟩ F2 N2=>e2 ▸ (by
    obtain ⟨k1,k2⟩ := look_val (n := n) hts
    obtain ⟨t',q2⟩ := k2 r hr
    exact kba_turn (value' := .Name "x" p) (fun _=>by with_unfolding_all rfl) (kda_item N2 (.head _) hd (strKind_is _ _ _ _) (by rw [hk];exact q2) (hQ _ h2' _ ⟨t',rfl⟩ F2 fun z hz=>N2 z (.tail _ hz)) (hs _ _ _) (fun _=>by with_unfolding_all rfl))))
theorem Ex.asg3 {x y z : Str} {px py pz p p2 pos : Pos} {k k2 : Nat} {a b d : Expr} {rest : List Stmt} {u v w r : PV} (h1 : Ev g a u) (h2 : Ev g b v) (h3 : Ev g d w) (h4 : Ex (((g.set z w).set y v).set x u) rest r)
    (hx : (g.f.cs.names.lookup x == some .local && (g.f.cs.names.lookup y == some .local && g.f.cs.names.lookup z == some .local)) = true) (ha : ∀ env,starEach [a,b,d] env = [(false,eval a env),(false,eval b env),(false,eval d env)]) (hb : ∀ env,starEach [b,d] env = [(false,eval b env),(false,eval d env)]) (hd : ∀ env,starEach [d] env = [(false,eval d env)])
    (hs : ∀ env : Env,swapsWithSole [.Tuple [.Name x px,.Name y py,.Name z pz] k p] (.Tuple [a,b,d] k2 p2) pos.line env = pure false) (hw : ∀ env : Env,env.scope = g.f.cs → swappedStores [.Tuple [.Name x px,.Name y py,.Name z pz] k p] (.Tuple [a,b,d] k2 p2) env = pure (some [x,y,z])) : Ex g (.Assign [.Tuple [.Name x px,.Name y py,.Name z pz] k p] (.Tuple [a,b,d] k2 p2) pos :: rest) r := .mk fun c m s Q E o hl F N hQ =>
  wpAny_execs_cons (Assign_Tuple_swapped (names := [x,y,z]) (Tuple_ (args_cons (h1.run c m s _ E o hl F N fun va h' tk' hva F' N'=>args_cons (h2.run c m { s with heap := h',toks := tk' } _ E o hl F' N' fun vb h2' tk2 hvb F2 N2=>args_cons (h3.run c m { s with heap := h2',toks := tk2 } _ E o hl F2 N2 fun vd h2' tk2 hvd F2 N2=>args_nil
    (kup_newTuple (s := { s with heap := h2',toks := tk2 }) F2 N2 (fun D h3' F3 N3 _=>unpackItemsN_ (s := { s with heap := h3',toks := tk2 }) F3 N3 (News.isTup N3 (.head _)) rfl rfl fun h4' F4 N4 =>
      assignInOrder_cons (bindName_ (storeX_L F4 N4 (fun h5 F5 N5=>assignInOrder_cons (bindName_ (storeX_L F5 N5 (fun h6 F6 N6=>assignInOrder_cons (bindName_ (storeX_L F6 N6 (fun h7 F7 N7=>assignInOrder_nil (h4.run c _ { s with heap := h7,toks := _ } Q E o.set.set.set (locs_set (locs_set (locs_set hl hvd) hvb) hva) F7 (fun q hq=>N7 q (.tail _ hq)) hQ)) o.k (eq_of_beq (Bool.and_eq_true_iff.mp hx).1)))) o.k (eq_of_beq (Bool.and_eq_true_iff.mp (Bool.and_eq_true_iff.mp hx).2).1)))) o.k (eq_of_beq (Bool.and_eq_true_iff.mp (Bool.and_eq_true_iff.mp hx).2).2))))
      (by rw [sizeLine_eq];exact (by decide : 3 ≤ 16777216)))) (by rw [hd];rfl)) (by rw [hb,hd])) (by rw [ha,hb]))) (hs _) (hw _ rfl))
theorem Ev.ifT {t a b : Expr} {pos : Pos} {q : Bool} {r : PV} (h : Te g t q) (hq : q = true) (h1 : Ev g a r) : Ev g (.IfExp t a b pos) r := .mk fun c m s Q E o hl F N hQ =>
  IfExp_ (h.run c m s _ E _ o hl F N rfl fun h' tk' F' N'=>by rw [if_pos hq];exact h1.run c m { s with heap := h',toks := tk' } _ E o hl F' N' hQ)
theorem Ev.ifF {t a b : Expr} {pos : Pos} {q : Bool} {r : PV} (h : Te g t q) (hq : q = false) (h1 : Ev g b r) : Ev g (.IfExp t a b pos) r := .mk fun c m s Q E o hl F N hQ =>
  IfExp_ (h.run c m s _ E _ o hl F N rfl fun h' tk' F' N'=>by rw [if_neg (by rw [hq];decide)];exact h1.run c m { s with heap := h',toks := tk' } _ E o hl F' N' hQ)
-- texts cut
theorem Ex.part {x y z : Str} {px py pz p pos ap cp : Pos} {k kk : Nat} {o : Expr} {q1 : Pos} {sep : Str} {t u v w : Str} {rest : List Stmt} {r : PV} (h1 : Ev g o (.s t)) (hp : Txt.partition t sep = (u,v,w)) (hsep : (sep.length == 0) = false) (hx : t.length ≤ 1000) (h2 : Ex (((g.set x (.s u)).set y (.s v)).set z (.s w)) rest r)
    (hk : (g.f.cs.names.lookup x == some .local && (g.f.cs.names.lookup y == some .local && g.f.cs.names.lookup z == some .local)) = true) (hm : Mc o "partition" ap [.Constant (.str sep) kk q1] cp)
    (hs : ∀ env : Env,swapsWithSole [.Tuple [.Name x px,.Name y py,.Name z pz] k p] (.Call (.Attribute o "partition" ap) [.Constant (.str sep) kk q1] [] cp) pos.line env = pure false) (hw : ∀ env : Env,swappedStores [.Tuple [.Name x px,.Name y py,.Name z pz] k p] (.Call (.Attribute o "partition" ap) [.Constant (.str sep) kk q1] [] cp) env = pure none) :
    Ex g (.Assign [.Tuple [.Name x px,.Name y py,.Name z pz] k p] (.Call (.Attribute o "partition" ap) [.Constant (.str sep) kk q1] [] cp) pos :: rest) r := .mk fun c m s Q E ok hl F N hQ =>
  let ⟨pl,hpl⟩ := hm
  wpAny_execs_cons (Assign_Tuple (MethodCall_ (h1.run c m s _ E ok hl F N fun _ h' tk' ⟨tt,e1⟩ F' N'=>e1 ▸ PySem.GM.partition (callWith_method1 (args_cons (Constant_str (args_nil (KXpa.partition F' N' hsep (by rw [hp]) (by rw [hp]) (by rw [hp]) (by rw [sizeLine_eq];omega) fun D ta tb tc h2' k2 F2 N2 _ =>
    unpackN_ F2 N2 (News.isTup N2 (.head _)) rfl rfl rfl fun h3 F3 N3=>by
      rw [Bool.and_eq_true,Bool.and_eq_true] at hk
      exact assignInOrder_cons (PyProof.Rows.assign_Name (storeX_L F3 N3 (fun h4 F4 N4=>assignInOrder_cons (PyProof.Rows.assign_Name (storeX_L F4 N4 (fun h5 F5 N5=>assignInOrder_cons (PyProof.Rows.assign_Name (storeX_L F5 N5 (fun h6 F6 N6=>assignInOrder_nil
        (h2.run c _ { s with heap := h6,toks := _ } Q E ok.set.set.set (locs_set (locs_set (locs_set hl ⟨ta,rfl⟩) ⟨tb,rfl⟩) ⟨tc,rfl⟩) F6 (fun q hq=>N6 q (.tail _ hq)) hQ)) ok.k (eq_of_beq hk.2.2)))) ok.k (eq_of_beq hk.2.1)))) ok.k (eq_of_beq hk.1)))))) rfl) rfl rfl)) (hpl _)) (hs _) (hw _))
theorem Ex.split {x : Str} {px pos ap cp : Pos} {kk : Nat} {o : Expr} {q1 : Pos} {sep t : Str} {ps : List Str} {rest : List Stmt} {r : PV} (h1 : Ev g o (.s t)) (hp : Txt.split t sep = ps) (hsep : (sep.length == 0) = false) (hx : t.length ≤ 1000) (h2 : ∀ D vs,StrsAre vs ps → Ex { g with N := (D,listOf (List.toArray vs) 0) :: g.N,ρ := (x,.v (.ref D)) :: g.ρ } rest r)
    (hk : (g.f.cs.names.lookup x == some .local) = true) (hm : Mc o "split" ap [.Constant (.str sep) kk q1] cp)
    (hs : ∀ env : Env,swapsWith (.Call (.Attribute o "split" ap) [.Constant (.str sep) kk q1] [] cp) (some (.Name x px)) pos.line env = pure false) :
    Ex g (.Assign [.Name x px] (.Call (.Attribute o "split" ap) [.Constant (.str sep) kk q1] [] cp) pos :: rest) r := .mk fun c m s Q E ok hl F N hQ =>
  let ⟨pl,hpl⟩ := hm
  wpAny_execs_cons (wpAny_Assign_Name (MethodCall_ (h1.run c m s _ E ok hl F N fun _ h' tk' ⟨tt,e1⟩ F' N'=>e1 ▸ PySem.GM.split (callWith_method1 (args_cons (Constant_str (args_nil (KSpl.split1 F' N' hsep (fun D l h2' k2 e sa F2 N2 lt =>
    storeX_L F2 N2 (fun h3 F3 N3=>(h2 D (strValues l) (by rw [← hp,← e];exact sa)).run c _ { s with heap := h3,toks := _ } Q E ⟨ok.B,ok.X,ok.T,ok.k,ok.d,ok.u⟩ (locs_set hl rfl) F3 N3 fun y h4 tk4 m4 hy F4 N4=>hQ y h4 tk4 m4 hy F4 fun q hq=>N4 q (.tail _ hq)) ok.k (eq_of_beq hk)) (by rw [sizeLine_eq];omega)))) rfl) rfl rfl)) (hpl _)) (hs _))
end
end
section
theorem c_cell {w : World} {mean : ExcName → Option Value} {mg mb : Str → Option Value} {news : List (Addr × Obj)} (x : Str) (tx : Tok) :
    Cb w mean mg mb 449 1 news (True) [.str x tx] (fun t=>.int (cellF x) t) := by
  dsimp only [Cb]
  k_fill
  intros
  rename_i hpre _ _ hret
  k_with_none
  k_with "getMethod ref m" => ((with_reducible show wpAny _ _ (getMethod (Value.ref _) (PySem.Str.ofString "index") _) _ _ _);k_dflt (refine' kf_method ?N ?m PySem.F.slot_list_index PySem.F.type_list_index ?_;(case N=>k_asm);(case m=>k_mem)))
  k_with "call builtin:list.index m" => ((with_reducible show wpAny _ _ (call (Value.builtin _) [Value.ref _,Value.str _ _]) _ _ _);k_dflt (refine' idx_list ?N ?m ?i ?e ?z ?_;(case N=>k_asm);(case m=>k_mem);(case i=>assumption);(case e=>exact any_mem (by assumption));(case z=>(k_extra "len"))))
  k_with "len" => (simp only [*,cells_len,show (Txt.split _ _ : List Str) = cellsL from rfl];decide)
  refine wpAny_call ?_
  k_dflt cell_enter
  (try (rename Fr _ _ _ _=>Fm9;replace Fm9 : Fr _ _ _ (fun y=>List.lookup y [(Str.ofString "text",.str x tx)]) := Fm9))
  k_steps
  all_goals (first | (refine' cb_retI hret ?e1 ?e2 ?e3;(case e2=>k_asm);(case e3=>first | k_asm | (refine' cb_drop ?cbN ?cbS;(case cbN=>assumption);(case cbS=>kcj_all)));(case e1=>first | exact cell_end1 (by assumption) (by assumption) | exact cell_end2 (by assumption) (by assumption) rfl)))
end
section
theorem c_num {w : World} {mean : ExcName → Option Value} {mg mb : Str → Option Value} {news : List (Addr × Obj)} (x : Str) (tx : Tok) :
    Cb w mean mg mb 442 10 news (x.length ≤ 600) [.str x tx] (fun t=>.int (numF x) t) := by
  dsimp only [Cb]
  k_fill
  intros
  rename_i hpre _ _ hret
  k_with_none
  k_with "compareOp Eq ref ref m" => ((with_reducible show wpAny _ _ (compareOp CmpOp.Eq (Value.ref _) (Value.ref _)) _ _ _);k_dflt (refine' eq_nilN ?k1 ?k2 ?k3 ?k4 ?_;(case k1=>k_asm);(case k3=>k_mem);(case k2=>k_mem);(case k4=>ktr_units)))
  k_with "compareOp NotEq ref ref m" => ((with_reducible show wpAny _ _ (compareOp CmpOp.NotEq (Value.ref _) (Value.ref _)) _ _ _);k_dflt (refine' ne_nilN ?k1 ?k2 ?k3 ?k4 ?_;(case k1=>k_asm);(case k3=>k_mem);(case k2=>k_mem);(case k4=>ktr_units)))
  k_with "call type:int m" => ((with_reducible show wpAny _ _ (call (Value.type "int") [Value.str _ _]) _ _ _);k_dflt (refine' PySem.W.KIN.call_text ?k1 ?k2 ?_;(case k1=>exact int_figs (by assumption) (by assumption) (by assumption) (by omega));(case k2=>omega)))
  refine wpAny_call ?_
  k_dflt cell_enter
  (try (rename Fr _ _ _ _=>Fm9;replace Fm9 : Fr _ _ _ (fun y=>List.lookup y [(Str.ofString "text",.str x tx)]) := Fm9))
  k_steps
  all_goals (first | (refine' cb_retI hret ?e1 ?e2 ?e3;(case e2=>k_asm);(case e3=>first | k_asm | (refine' cb_drop ?cbN ?cbS;(case cbN=>assumption);(case cbS=>kcj_all)));(case e1=>first | exact numE1 (by assumption) (by assumption) | exact numE2 (by assumption) (by assumption) (by assumption) (by assumption) | exact numE3 (by assumption) (by assumption) (by assumption) (by assumption) | exact numE4 (by assumption) (by assumption) | exact numE5 (by assumption) (by assumption) (by assumption) (by assumption) | exact numE6 (by assumption) (by assumption) (by assumption) (by assumption))))
end
section
section
variable {g : G}
theorem gl_cell (P : Params) : nsIn (hd.heap_39 P) mainGlobals (Str.ofString "_law_cell") = some (some (.ref 449)) := by kernel_rfl
theorem kp_cell (P : Params) : keepIn (hd.heap_39 P) (.ref 449) = true := by kernel_rfl
theorem gl_number (P : Params) : nsIn (hd.heap_39 P) mainGlobals (Str.ofString "_law_number") = some (some (.ref 442)) := by kernel_rfl
theorem kp_number (P : Params) : keepIn (hd.heap_39 P) (.ref 442) = true := by kernel_rfl
theorem gl_BRANCHES (P : Params) : nsIn (hd.heap_39 P) mainGlobals (Str.ofString "_law_BRANCHES") = some (some (.ref 412)) := by kernel_rfl
theorem gl_FETCHES (P : Params) : nsIn (hd.heap_39 P) mainGlobals (Str.ofString "_law_FETCHES") = some (some (.ref 413)) := by kernel_rfl
theorem gl_WITH_FIGURES (P : Params) : nsIn (hd.heap_39 P) mainGlobals (Str.ofString "_law_WITH_FIGURES") = some (some (.ref 414)) := by kernel_rfl
theorem gl_WITH_CELLS (P : Params) : nsIn (hd.heap_39 P) mainGlobals (Str.ofString "_law_WITH_CELLS") = some (some (.ref 415)) := by kernel_rfl
theorem gl_TIMES (P : Params) : nsIn (hd.heap_39 P) mainGlobals (Str.ofString "_law_TIMES") = some (some (.ref 416)) := by kernel_rfl
theorem gl_unhexed (P : Params) : nsIn (hd.heap_39 P) mainGlobals (Str.ofString "_law_unhexed") = some (some (.ref 459)) := by kernel_rfl
theorem kp_unhexed (P : Params) : keepIn (hd.heap_39 P) (.ref 459) = true := by kernel_rfl
theorem gl_jump (P : Params) : nsIn (hd.heap_39 P) mainGlobals (Str.ofString "_law_jump") = some (some (.ref 464)) := by kernel_rfl
theorem kp_jump (P : Params) : keepIn (hd.heap_39 P) (.ref 464) = true := by kernel_rfl
theorem gl_moved (P : Params) : nsIn (hd.heap_39 P) mainGlobals (Str.ofString "_law_moved") = some (some (.ref 471)) := by kernel_rfl
theorem kp_moved (P : Params) : keepIn (hd.heap_39 P) (.ref 471) = true := by kernel_rfl
theorem gl_worked (P : Params) : nsIn (hd.heap_39 P) mainGlobals (Str.ofString "_law_worked") = some (some (.ref 478)) := by kernel_rfl
theorem kp_worked (P : Params) : keepIn (hd.heap_39 P) (.ref 478) = true := by kernel_rfl
theorem gl_len (P : Params) : nsIn (hd.heap_39 P) mainGlobals (Str.ofString "len") = some none := by kernel_rfl
theorem Ev.cell {p pos : Pos} {e : Expr} {x : Str} (h1 : Ev g e (.s x)) (hk : (g.f.cs.names.lookup (Str.ofString "_law_cell") == some .globalImplicit && !(Str.ofString "_law_cell" == ("__debug__" : Str))) = true) (hD : decide (1 ≤ g.D) = true) (hs : ∀ env,starEach [e] env = [(false,eval e env)]) : Ev g (.Call (.Name (Str.ofString "_law_cell") p) [e] [] pos) (.i (cellF x)) :=
  Ev.call1 (Ev.glo hk (gl_cell _)) h1 (fun _ ⟨t,e⟩=>e ▸ Cp.ofI (c_cell x t) trivial) hD hs (kp_cell _)
theorem Ev.num {p pos : Pos} {e : Expr} {x : Str} (h1 : Ev g e (.s x)) (hx : x.length ≤ 600) (hk : (g.f.cs.names.lookup (Str.ofString "_law_number") == some .globalImplicit && !(Str.ofString "_law_number" == ("__debug__" : Str))) = true) (hD : decide (10 ≤ g.D) = true) (hs : ∀ env,starEach [e] env = [(false,eval e env)]) : Ev g (.Call (.Name (Str.ofString "_law_number") p) [e] [] pos) (.i (numF x)) :=
  Ev.call1 (Ev.glo hk (gl_number _)) h1 (fun _ ⟨t,e⟩=>e ▸ Cp.ofI (c_num x t) hx) hD hs (kp_number _)
end
theorem locs_bindL {kd : Str → Option NameKind} {x y : Str} {u v : PV} {a b : Value} (h1 : kd x = some .local) (h2 : kd y = some .local) (ha : u.Is a) (hb : v.Is b) : Locs [(y,v),(x,u)] (bindL kd [(x,a),(y,b)] fun _=>none) := by
  unfold bindL;rw [if_pos h1];unfold bindL;rw [if_pos h2];unfold bindL
  exact locs_set (locs_set (fun _ _ h=>by cases h) ha) hb
end
section
section
variable {prog : Program} {w : World} {A : Around} {E : Value → Shared → Prop} {s : Shared} {h₀ : Heap} {L d : Addr} {news : List (Addr × Obj)} {o : Obj} {Q : Value → Shared → Prop}
end
noncomputable def oneF (v : Int) : Bool :=
  if v % 128 = 55 ∨ v % 128 = 23 ∨ v % 128 = 111 then true
  else if v % 128 = 19 then (if v / 4096 % 8 = 1 ∨ v / 4096 % 8 = 5 then v / 2 ^ 25 = 0 ∨ (v / 4096 % 8 = 5 ∧ v / 2 ^ 25 = 32) else true)
  else if v % 128 = 51 then v / 2 ^ 25 = 0 ∨ v / 2 ^ 25 = 1 ∨ (v / 2 ^ 25 = 32 ∧ (v / 4096 % 8 = 0 ∨ v / 4096 % 8 = 5))
  else if v % 128 = 15 then v % 2 ^ 20 = 15 ∧ v / 2 ^ 28 = 0
  else if v % 128 = 115 then v = 115 ∨ v = 1048691
  else if v % 128 = 103 then v / 4096 % 8 = 0
  else if v % 128 = 99 then ¬ (v / 4096 % 8 = 2 ∨ v / 4096 % 8 = 3)
  else if v % 128 = 3 then ¬ (v / 4096 % 8 = 3 ∨ v / 4096 % 8 = 6 ∨ v / 4096 % 8 = 7)
  else if v % 128 = 35 then v / 4096 % 8 = 0 ∨ v / 4096 % 8 = 1 ∨ v / 4096 % 8 = 2
  else false
end
section
open PySem.Calls
section
variable {g : G}
theorem Ev.cmp {a b : Expr} {op : CmpOp} {pos : Pos} {u v : PV} {r : Bool} (h1 : Ev g a u) (h2 : Ev g b v) (h3 : Cm g op u v r) (hb : behindInMarks op b = false) : Ev g (.Compare a [op] [b] pos) (.b r) := .mk fun c m s Q E o hl F N hQ =>
  wpAny_Compare1 (h1.run c m s _ E o hl F N fun x h' tk' hx F' N'=>h2.run c m { s with heap := h',toks := tk' } _ E o hl F' N' fun y h'' tk'' hy F'' N''=>h3.run c m { s with heap := h'',toks := tk'' } _ E x y o F'' N'' hx hy (hQ _ h'' tk'' rfl F'' N'')) hb
theorem Ev.or_ {a b : Expr} {es : List Expr} {pos : Pos} {p q : Bool} (h1 : Ev g a (.b p)) (h2 : Ev g (.BoolOp .Or (b :: es) pos) (.b q)) : Ev g (.BoolOp .Or (a :: b :: es) pos) (.b (p || q)) := .mk fun c m s Q E o hl F N hQ =>
  BoolOp_or (h1.run c m s _ E o hl F N fun x h' tk' hx F' N'=>(show x = .bool p from hx) ▸ wpAny_truthy_bool (by
    cases p with
    | true=>exact hQ _ h' tk' rfl F' N'
    | false=>exact h2.run c m { s with heap := h',toks := tk' } _ E o hl F' N' hQ))
theorem Ev.and_ {a b : Expr} {es : List Expr} {pos : Pos} {p q : Bool} (h1 : Ev g a (.b p)) (h2 : Ev g (.BoolOp .And (b :: es) pos) (.b q)) : Ev g (.BoolOp .And (a :: b :: es) pos) (.b (p && q)) := .mk fun c m s Q E o hl F N hQ =>
  BoolOp_and (h1.run c m s _ E o hl F N fun x h' tk' hx F' N'=>(show x = .bool p from hx) ▸ wpAny_truthy_bool (by
    cases p with
    | false=>exact hQ _ h' tk' rfl F' N'
    | true=>exact h2.run c m { s with heap := h',toks := tk' } _ E o hl F' N' hQ))
theorem Ev.bop1 {op : BoolOp} {e : Expr} {pos : Pos} {v : PV} (h : Ev g e v) : Ev g (.BoolOp op [e] pos) v := .mk fun c m s Q E o hl F N hQ=>BoolOp_one (h.run c m s Q E o hl F N hQ)
structure We (g : G) (es : List Expr) (l : List Int) : Prop where
  run : ∀ (c : Rn) (pos : Pos) (m : Str → Option Value) (s : Shared) (Q : List Value → Shared → Prop) (E : Value → Shared → Prop),Ok g c → Locs g.ρ m → Fr c.h₀ c.L s.heap m → News c.h₀ c.L s.heap g.N →
  (∀ vs h' tk',IntsAre vs l → Fr c.h₀ c.L h' m → News c.h₀ c.L h' g.N → Q vs { s with heap := h',toks := tk' }) → wpAny (model PRG g.w) (c.A g.f) (spliced (backTo pos (starEach es (c.env g.f)))) Q E s
theorem We.nil : We g [] [] := .mk fun _ _ _ s _ _ _ _ F N hQ=>args_nil (hQ [] s.heap s.toks .nil F N)
theorem We.cons {x : Int} {e : Expr} {es : List Expr} {l : List Int} (h1 : Ev g e (.i x)) (h : We g es l) (hs : ∀ env,starEach (e :: es) env = (false,eval e env) :: starEach es env) : We g (e :: es) (x :: l) := .mk fun c pos m s Q E o hl F N hQ =>
  args_cons (h1.run c m s _ E o hl F N fun _ h' tk' ⟨t,e1⟩ F' N'=>e1 ▸ h.run c pos m { s with heap := h',toks := tk' } _ E o hl F' N' fun vs h2 tk2 hv F2 N2=>hQ _ h2 tk2 (.cons x t hv) F2 N2) (hs _)
theorem Ev.inW {a : Expr} {es : List Expr} {k : Nat} {p pos : Pos} {x : Int} {l : List Int} (h1 : Ev g a (.i x)) (h2 : We g es l) (hl : l.length ≤ 40) (hb : behindInMarks .In (.Tuple es k p) = false) : Ev g (.Compare a [.In] [.Tuple es k p] pos) (.b (l.any fun y=>y == x)) := .mk fun c m s Q E o hl' F N hQ =>
  wpAny_Compare1 (h1.run c m s _ E o hl' F N fun _ h' tk' ⟨_,e⟩ F' N'=>Tuple_ (h2.run c p m { s with heap := h',toks := tk' } _ E o hl' F' N' fun vs h3 tk3 hs F3 N3=>kup_newTuple (s := { s with heap := h3,toks := tk3 }) F3 N3 (fun D h'' F'' N'' _=>e ▸ in_tuple_ints (News.isTup N'' (.head _)) (by rw [List.toList_toArray];exact hs)
    (hQ _ h'' tk3 rfl F'' fun q hq=>N'' q (.tail _ hq))) (by rw [IntsAre.length hs,sizeLine_eq];omega))) hb
theorem Ev.niW {a : Expr} {es : List Expr} {k : Nat} {p pos : Pos} {x : Int} {l : List Int} (h1 : Ev g a (.i x)) (h2 : We g es l) (hl : l.length ≤ 40) (hb : behindInMarks .NotIn (.Tuple es k p) = false) : Ev g (.Compare a [.NotIn] [.Tuple es k p] pos) (.b (!(l.any fun y=>y == x))) := .mk fun c m s Q E o hl' F N hQ =>
  wpAny_Compare1 (h1.run c m s _ E o hl' F N fun _ h' tk' ⟨_,e⟩ F' N'=>Tuple_ (h2.run c p m { s with heap := h',toks := tk' } _ E o hl' F' N' fun vs h3 tk3 hs F3 N3=>kup_newTuple (s := { s with heap := h3,toks := tk3 }) F3 N3 (fun D h'' F'' N'' _=>e ▸ notin_tuple_ints (News.isTup N'' (.head _)) (by rw [List.toList_toArray];exact hs)
    (hQ _ h'' tk3 rfl F'' fun q hq=>N'' q (.tail _ hq))) (by rw [IntsAre.length hs,sizeLine_eq];omega))) hb
theorem Te.inWi {a : Expr} {es : List Expr} {k : Nat} {p pos : Pos} {x : Int} {l : List Int} (h1 : Ev g a (.i x)) (h2 : We g es l) (hl : l.length ≤ 40) (hb : behindInMarks .In (.Tuple es k p) = false) : Te g (.Compare a [.In] [.Tuple es k p] pos) (l.any fun y=>y == x) := .mk fun c m s Q E whole o hl' F N _ hQ =>
  wpAny_isTrue_Compare1 (h1.run c m s _ E o hl' F N fun _ h' tk' ⟨_,e⟩ F' N'=>Tuple_ (h2.run c p m { s with heap := h',toks := tk' } _ E o hl' F' N' fun vs h3 tk3 hs F3 N3=>kup_newTuple (s := { s with heap := h3,toks := tk3 }) F3 N3 (fun D h'' F'' N'' _=>e ▸ in_tuple_ints (News.isTup N'' (.head _)) (by rw [List.toList_toArray];exact hs)
    (wpAny_truthy_bool (hQ h'' tk3 F'' fun q hq=>N'' q (.tail _ hq)))) (by rw [IntsAre.length hs,sizeLine_eq];omega))) hb
theorem Ex.iteB {t : Expr} {body rest : List Stmt} {pos : Pos} {b x y : Bool} (h : Te g t b) (h1 : Ex g body (.b x)) (h2 : Ex g rest (.b y)) : Ex g (.If t body [] pos :: rest) (.b (bif b then x else y)) := Ex.if_ h (fun q=>by rw [q];exact h1) fun q=>by rw [q];exact h2
-- a dict of tuples of ints
noncomputable abbrev tupO (vs : List Value) : Obj := { cls := .type "tuple",data := .seq vs.toArray }
noncomputable def lookQ : List (Int × List Int) → Int → List Int
  | [],_=>[]
  | (k,v) :: r,n=>if k = n then v else lookQ r n
noncomputable def TAt (news : List (Addr × Obj)) (o : Option Value) (l : List Int) : Prop := (o = none ∧ l = []) ∨ ∃ D vs,o = some (.ref D) ∧ IntsAre vs l ∧ (D,tupO vs) ∈ news
theorem TAt.mono {n n' : List (Addr × Obj)} {o : Option Value} {l : List Int} (h : TAt n o l) (k : ∀ p ∈ n,p ∈ n') : TAt n' o l := by
  rcases h with h | ⟨D,vs,a,b,c⟩
  · exact .inl h
  · exact .inr ⟨D,vs,a,b,k _ c⟩
structure Pt (ks : List (Option Expr)) (es : List Expr) (l : List (Int × List Int)) : Prop where
  run : ∀ (g : G) (c : Rn) (pos : Pos) (m : Str → Option Value) (s : Shared) (Q : List (Value × Value) → Shared → Prop) (E : Value → Shared → Prop),Ok g c → Locs g.ρ m → Fr c.h₀ c.L s.heap m → News c.h₀ c.L s.heap g.N →
  (∀ vs h' tk' pre,allIntKeys vs = true → (intKeyPairs vs).map (·.1) = l.map (·.1) → (∀ n,TAt pre (valueAt (intKeyPairs vs) n) (lookQ l n)) → (∀ p ∈ pre,∀ q ∈ g.N,q.1 < p.1) → Fr c.h₀ c.L h' m → News c.h₀ c.L h' (pre ++ g.N) → Q vs { s with heap := h',toks := tk' }) → wpAny (model PRG g.w) (c.A g.f) (evalPairs (pairTrees ks es (c.env g.f) pos)) Q E s
theorem Pt.nil : Pt [] [] [] := .mk fun _ _ _ _ s _ _ _ _ F N hQ=>pairTrees_nil_walk (hQ [] s.heap s.toks [] rfl rfl (fun _=>.inl ⟨rfl,rfl⟩) (fun _ h=>nomatch h) F N)
theorem Pt.cons {x : Int} {k kk : Nat} {p p2 : Pos} {ws : List Expr} {w : List Int} {ks : List (Option Expr)} {es : List Expr} {l : List (Int × List Int)} (h1 : ∀ g,We g ws w) (hw : w.length ≤ 40) (h2 : Pt ks es l) : Pt (some (.Constant (.int x) k p) :: ks) (.Tuple ws kk p2 :: es) ((x,w) :: l) := .mk fun g c pos m s Q E ok hl F N hQ =>
  pairTrees_cons_walk (wpAny_Constant_int (Tuple_ ((h1 g).run c p2 m _ _ E ok hl F N fun vs h' tk' hv F' N'=>kup_newTuple (s := { s with heap := h',toks := tk' }) F' N' (fun D h3 F3 N3 lt =>
    h2.run { g with N := (D,tupO vs) :: g.N } c pos m { s with heap := h3,toks := tk' } _ E ⟨ok.B,ok.X,ok.T,ok.k,ok.d,ok.u⟩ hl F3 N3 fun ps h4 tk4 pre ha hk ht lo F4 N4=>hQ _ h4 tk4 (pre ++ [(D,tupO vs)]) (by show allIntKeys ps = true;exact ha) (by show x :: (intKeyPairs ps).map (·.1) = x :: l.map (·.1);rw [hk]) (fun n=>by
      show TAt _ (valueAt ((x,Value.ref D) :: intKeyPairs ps) n) (if x = n then w else lookQ l n)
      by_cases e : x = n
      · rw [if_pos e];exact .inr ⟨D,vs,by simp [valueAt,e],hv,List.mem_append_right _ (.head _)⟩
      · rw [if_neg e,show valueAt ((x,Value.ref D) :: intKeyPairs ps) n = valueAt (intKeyPairs ps) n by simp [valueAt,e]]
        exact (ht n).mono fun _ h=>List.mem_append_left _ h) (fun q hq r hr=>by
      rcases List.mem_append.mp hq with h | h
      · exact lo q h r (.tail _ hr)
      · rcases List.mem_singleton.mp h with rfl;exact lt r hr) F4 (by rw [List.append_assoc];exact N4)) (by rw [IntsAre.length hv,sizeLine_eq];omega))))
theorem Ex.asgT {x : Str} {px p pos : Pos} {ks : List (Option Expr)} {es : List Expr} {l : List (Int × List Int)} {rest : List Stmt} {r : PV} (hp : Pt ks es l) (h2 : ∀ d o kvs pre,(d == sysModules) = false → o.IsDictOf (PySem.intKind PRG g.w) kvs → (∀ n,TAt pre (valueAt kvs n) (lookQ l n)) → Ex { g with N := (d,o) :: (pre ++ g.N),ρ := (x,.v (.ref d)) :: g.ρ } rest r)
    (hc : (intLits ks && (ks.all (·.isSome) && (decide (ks.length = es.length) && (decide (ks ≠ []) && (decide (ks.length ≤ 15) && decide (l.map (·.1)).Nodup))))) = true) (hk : (g.f.cs.names.lookup x == some .local) = true) (hs : ∀ env : Env,env.kindOf = (fun y=>g.f.cs.names.lookup y) → swapsWith (.Dict ks es p) (some (.Name x px)) pos.line env = pure false) :
    Ex g (.Assign [.Name x px] (.Dict ks es p) pos :: rest) r := .mk fun c m s Q E ok hl F N hQ=>by
  simp only [Bool.and_eq_true,decide_eq_true_eq] at hc
  obtain ⟨c1,c2,c3,c4,c5,c6⟩ := hc
  refine wpAny_execs_cons (wpAny_Assign_Name (kdn_int c1 F N ok.T.nolimit c2 c3 c4 c5 fun d h' o F' N' lt lo hd=>?_) (hs _ rfl))
  refine hp.run { g with N := (d,o) :: g.N } c p m { s with heap := h' } _ E ⟨ok.B,ok.X,ok.T,ok.k,ok.d,ok.u⟩ hl F' N' fun vs h2' tk2 pre ha hk2 ht lo2 F2 N2=>?_
  have N3 : News c.h₀ c.L h2' ((d,o) :: (pre ++ g.N)) := fun q hq=>N2 q (by
    rcases List.mem_cons.mp hq with rfl | hq
    · exact List.mem_append_right _ (.head _)
    · rcases List.mem_append.mp hq with hq | hq
      · exact List.mem_append_left _ hq
      · exact List.mem_append_right _ (.tail _ hq))
  refine kdn_made_int (s := { s with heap := h2',toks := tk2 }) F2 N3 (UpdF.head fun q hq=>?_) hd ha (by rw [hk2];exact c6) fun h3 o' F3 N3 hd3=>?_
  · rcases List.mem_append.mp hq with hq | hq
    · exact Nat.ne_of_gt (lo2 q hq _ (.head _))
    · exact Nat.ne_of_lt (lt q hq)
  · exact storeX_L F3 N3 (fun h4 F4 N4=>(h2 d o' _ pre lo hd3 ht).run c _ { s with heap := h4,toks := _ } Q E ⟨ok.B,ok.X,ok.T,ok.k,ok.d,ok.u⟩ (locs_set hl rfl) F4 N4 fun y h5 tk5 m5 hy F5 N5=>hQ y h5 tk5 m5 hy F5 fun q hq=>N5 q (.tail _ (List.mem_append_right _ hq))) ok.k (eq_of_beq hk)
theorem Ev.inget {q o e : Expr} {k2 : Nat} {ap p pos cp : Pos} {d : Addr} {ob : Obj} {kvs : List (Int × Value)} {pre : List (Addr × Obj)} {l : List (Int × List Int)} {x n : Int} (h1 : Ev g q (.i x)) (ho : Ev g o (.v (.ref d))) (he : Ev g e (.i n)) (lo : (d == sysModules) = false) (hd : ob.IsDictOf (PySem.intKind PRG g.w) kvs) (ht : ∀ n,TAt pre (valueAt kvs n) (lookQ l n)) (hm : (d,ob) ∈ g.N) (hpre : ∀ p ∈ pre,p ∈ g.N)
    (hb : behindInMarks .In (.Call (.Attribute o "get" ap) [e,.Tuple [] k2 p] [] cp) = false) (hs : ∀ env,starEach [e,.Tuple [] k2 p] env = [(false,eval e env),(false,eval (.Tuple [] k2 p) env)]) (hs2 : ∀ env,starEach [.Tuple [] k2 p] env = [(false,eval (.Tuple [] k2 p) env)]) (hM : Mc o "get" ap [e,.Tuple [] k2 p] cp) :
    Ev g (.Compare q [.In] [.Call (.Attribute o "get" ap) [e,.Tuple [] k2 p] [] cp] pos) (.b ((lookQ l n).any fun y=>y == x)) := .mk fun c m s Q E ok hlo F N hQ =>
  let ⟨pl,hpl⟩ := hM
  wpAny_Compare1 (h1.run c m s _ E ok hlo F N fun _ h' tk' ⟨_,e1⟩ F' N'=>MethodCall_ (ho.run c m { s with heap := h',toks := tk' } _ E ok hlo F' N' fun y h2 tk2 e2 F2 N2=>(show y = .ref d from e2) ▸ kdg_method N2 hm hd (callWith_method1 (args_cons (he.run c m { s with heap := h2,toks := tk2 } _ E ok hlo F2 N2 fun _ h3 tk3 ⟨t3,e3⟩ F3 N3=>e3 ▸
    args_cons (Tuple_ (args_nil (kup_newTuple (s := { s with heap := h3,toks := tk3 }) F3 N3 (fun D h4 F4 N4 _=>args_nil (kdg_get2 N4 (.tail _ hm) hd lo (intKind_is _ _ _ _) _ rfl (by
      rcases ht n with ⟨a,b⟩ | ⟨D',vs,a,b,z⟩
      · rw [b] at hQ;rw [a];exact e1 ▸ in_tuple_ints (News.isTup N4 (.head _)) .nil (hQ _ h4 _ rfl F4 fun r hr=>N4 r (.tail _ hr))
      · rw [a];exact e1 ▸ in_tuple_ints (News.isTup N4 (.tail _ (hpre _ z))) (by rw [List.toList_toArray];exact b) (hQ _ h4 _ rfl F4 fun r hr=>N4 r (.tail _ hr))))) (by rw [sizeLine_eq];exact Nat.zero_le _)))) (by rw [hs2];rfl)) (by rw [hs,hs2])) (by rw [hs,hs2]) (by rw [hs2];rfl))) (hpl _)) hb
end
end
section
open PySem.Calls
section
variable {g : G}
theorem Bn.shlS {a b : Int} (h0 : 0 ≤ b ∧ b ≤ 32) (h : a.natAbs < 2 ^ 64) : Bn .LShift (.i a) (.i b) (.i (a * 2 ^ b.toNat)) := Bn.shl (decide_eq_true h0) h
theorem Bn.shrS {a b : Int} (h : 0 ≤ b) : Bn .RShift (.i a) (.i b) (.i (a.fdiv (2 ^ b.toNat))) := Bn.shr (decide_eq_true h)
theorem Ev.ifI {t a b : Expr} {pos : Pos} {q : Bool} {x y : Int} (h : Te g t q) (h1 : Ev g a (.i x)) (h2 : Ev g b (.i y)) : Ev g (.IfExp t a b pos) (.i (bif q then x else y)) := .mk fun c m s Q E o hl F N hQ =>
  IfExp_ (h.run c m s _ E _ o hl F N rfl fun h' tk' F' N'=>by
    cases q with
    | true=>exact h1.run c m { s with heap := h',toks := tk' } _ E o hl F' N' hQ
    | false=>exact h2.run c m { s with heap := h',toks := tk' } _ E o hl F' N' hQ)
theorem Ev.ifS {t a b : Expr} {pos : Pos} {q : Bool} {x y : Str} (h : Te g t q) (h1 : Ev g a (.s x)) (h2 : Ev g b (.s y)) : Ev g (.IfExp t a b pos) (.s (bif q then x else y)) := .mk fun c m s Q E o hl F N hQ =>
  IfExp_ (h.run c m s _ E _ o hl F N rfl fun h' tk' F' N'=>by
    cases q with
    | true=>exact h1.run c m { s with heap := h',toks := tk' } _ E o hl F' N' hQ
    | false=>exact h2.run c m { s with heap := h',toks := tk' } _ E o hl F' N' hQ)
theorem Ex.iteS {t : Expr} {body rest : List Stmt} {pos : Pos} {b : Bool} {x y : Str} (h : Te g t b) (h1 : b = true → Ex g body (.s x)) (h2 : b = false → Ex g rest (.s y)) : Ex g (.If t body [] pos :: rest) (.s (bif b then x else y)) := Ex.if_ h (fun q=>by rw [q];exact h1 q) fun q=>by rw [q];exact h2 q
end
end
section
open PySem.Calls PyProof.Rows.KTD
section
variable {g : G}
noncomputable def SubK (value slice : Expr) : Prop := (∀ P x t,subscripted slice false (.ref P) (.str x t) = operate [.ref P,.str x t] (getItem (.ref P) (.str x t))) ∧ ∀ P r,letTemporaryGo value (.ref P) r = pure ()
structure El (g : G) (body : List Stmt) (ys : List Str) : Prop where
  run : ∀ (c : Rn) (m : Str → Option Value) (s : Shared) (Q : Flow → Shared → Prop) (E : Value → Shared → Prop),Ok g c → Locs g.ρ m → Fr c.h₀ c.L s.heap m → News c.h₀ c.L s.heap g.N →
    (∀ D vs n h' tk' m',StrsAre vs ys → Fr c.h₀ c.L h' m' → News c.h₀ c.L h' ((D,listOf (List.toArray vs) n) :: g.N) → Q (.ret (.ref D)) { s with heap := h',toks := tk' }) → wpAny (model PRG g.w) (c.A g.f) (execs body (c.env g.f)) Q E s
structure Sx (g : G) (es : List Expr) (l : List Str) : Prop where
  run : ∀ (c : Rn) (pos : Pos) (m : Str → Option Value) (s : Shared) (Q : List Value → Shared → Prop) (E : Value → Shared → Prop),Ok g c → Locs g.ρ m → Fr c.h₀ c.L s.heap m → News c.h₀ c.L s.heap g.N →
  (∀ vs h' tk',StrsAre vs l → Fr c.h₀ c.L h' m → News c.h₀ c.L h' g.N → Q vs { s with heap := h',toks := tk' }) → wpAny (model PRG g.w) (c.A g.f) (spliced (backTo pos (starEach es (c.env g.f)))) Q E s
theorem Sx.nil : Sx g [] [] := .mk fun _ _ _ s _ _ _ _ F N hQ=>args_nil (hQ [] s.heap s.toks .nil F N)
theorem Sx.cons {x : Str} {e : Expr} {es : List Expr} {l : List Str} (h1 : Ev g e (.s x)) (h : Sx g es l) (hs : ∀ env,starEach (e :: es) env = (false,eval e env) :: starEach es env) : Sx g (e :: es) (x :: l) := .mk fun c pos m s Q E o hl F N hQ =>
  args_cons (h1.run c m s _ E o hl F N fun _ h' tk' ⟨t,e1⟩ F' N'=>e1 ▸ h.run c pos m { s with heap := h',toks := tk' } _ E o hl F' N' fun vs h2 tk2 hv F2 N2=>hQ _ h2 tk2 (.cons x t hv) F2 N2) (hs _)
theorem El.ret {es : List Expr} {p pos : Pos} {rest : List Stmt} {ys : List Str} (h : Sx g es ys) (hl : ys.length ≤ 40) : El g (.Return (some (.List es p)) pos :: rest) ys := .mk fun c m s Q E o hlo F N hQ =>
  wpAny_execs_cons (wpAny_Return_some (List_ (h.run c p m s _ E o hlo F N fun vs h' tk' hv F' N'=>newList_N (s := { s with heap := h',toks := tk' }) F' N' (fun h2 F2 N2=>hQ _ vs 0 h2 tk' m hv F2 N2) (by rw [strs_len hv,sizeLine_eq];omega))))
theorem El.if_ {t : Expr} {body rest : List Stmt} {pos : Pos} {b : Bool} {r : List Str} (h : Te g t b) (h1 : b = true → El g body r) (h2 : b = false → El g rest r) : El g (.If t body [] pos :: rest) r := .mk fun c m s Q E o hl F N hQ =>
  wpAny_execs_cons (wpAny_If (h.run c m s _ E _ o hl F N rfl fun h' tk' F' N'=>by
    cases b with
    | true=>exact (h1 rfl).run c m { s with heap := h',toks := tk' } _ E o hl F' N' fun D vs n h'' tk'' m' hx F'' N''=>hQ D vs n h'' tk'' m' hx F'' N''
    | false=>exact wpAny_execs_nil ((h2 rfl).run c m { s with heap := h',toks := tk' } Q E o hl F' N' fun D vs n h'' tk'' m' hx F'' N''=>hQ D vs n h'' tk'' m' hx F'' N'')))
theorem El.ifT {t : Expr} {body rest : List Stmt} {pos : Pos} {b : Bool} {r : List Str} (h : Te g t b) (hb : b = true) (h1 : El g body r) : El g (.If t body [] pos :: rest) r := El.if_ h (fun _=>h1) fun q=>by rw [hb] at q;cases q
theorem El.ifF {t : Expr} {body rest : List Stmt} {pos : Pos} {b : Bool} {r : List Str} (h : Te g t b) (hb : b = false) (h1 : El g rest r) : El g (.If t body [] pos :: rest) r := El.if_ h (fun q=>by rw [hb] at q;cases q) fun _=>h1
theorem El.asg {x : Str} {p pos : Pos} {e : Expr} {rest : List Stmt} {v : PV} {r : List Str} (h : Ev g e v) (h2 : El (g.set x v) rest r) (hk : (g.f.cs.names.lookup x == some .local) = true) (hs : ∀ env : Env,env.kindOf = (fun y=>g.f.cs.names.lookup y) → swapsWith e (some (.Name x p)) pos.line env = pure false) : El g (.Assign [.Name x p] e pos :: rest) r := .mk fun c m s Q E o hl F N hQ =>
  wpAny_execs_cons (wpAny_Assign_Name (h.run c m s _ E o hl F N fun y h' tk' hy F' N'=>storeX_L F' N' (fun h'' F'' N''=>h2.run c _ { s with heap := h'',toks := tk' + 1 } Q E o.set (locs_set hl hy) F'' N'' hQ) o.k (eq_of_beq hk)) (hs _ rfl))
theorem Ev.field {o : Expr} {x : Str} {kk : Nat} {q1 pos : Pos} {d : Addr} {ob : Obj} {kvs : List (Str × Value)} {i : Int} {t : Tok} (h1 : Ev g o (.v (.ref d))) (hm : (d,ob) ∈ g.N) (hd : ob.IsDictOf (PySem.strKind PRG g.w) kvs) (hv : PySem.valueAt kvs x = some (.int i t)) (hs : SubK o (.Constant (.str x) kk q1)) : Ev g (.Subscript o (.Constant (.str x) kk q1) pos) (.i i) := .mk fun c m s Q E ok hl F N hQ =>
  Subscript_ (h1.run c m s _ E ok hl F N fun y h' tk' e1 F' N'=>(show y = .ref d from e1) ▸ Constant_str (dict_item N' hm hd hv (hQ _ h' _ ⟨t,rfl⟩ F' N') (hs.1 _ _ _) (hs.2 _)))
theorem item_tuple_go {prog : Program} {w : World} {A : Around} {E : Value → Shared → Prop} {s : Shared} {value slice : Expr} {t : Addr} {items : Array Value} {k : Int} {u : Tok} {j : Nat} {x : Value} {Q : Value → Shared → Prop} (ht : IsTup s.heap t items)
    (hlo : -(2 ^ 63) ≤ k) (hhi : k < 2 ^ 63) (hj : seqIndex? k items.size = some j) (hx : items[j]? = some x) (h : Q x s) (hs : subscripted slice false (.ref t) (.int k u) = operate [.ref t,.int k u] (getItem (.ref t) (.int k u))) :
    wpAny (model prog w) A (subscriptTail value slice (.ref t) (.int k u)) Q E s := by
  unfold subscriptTail
  refine wpAny_bind ?_
  rw [getitemInPython_of_ne ht.typeIs.not_modules]
  refine wpAny_bind (wpAny_specialOf ht.typeIs slot_tuple_getitem.lookup ?_)
  have fin : wpAny (model prog w) A (subscripted slice false (.ref t) (.int k u)) (fun r s₃=>wpAny (model prog w) A (letTemporaryGo value (.ref t) r >>= fun _=>pure r) Q E s₃) E s := by
    rw [hs]
    exact wpAny_operating (wpAny_mono (getItem_tuple ht hlo hhi hj hx (Q := Q) h) (fun r s₃ h₃=>wpAny_bind (wpAny_letTemporaryGo (wpAny_pure h₃))) fun _ _ x=>x)
  first
    | exact wpAny_pure (wpAny_bind fin)
    | exact wpAny_bind (wpAny_pure (wpAny_bind fin))
    | exact wpAny_bind fin
theorem Ev.form {o e : Expr} {kk : Nat} {q1 p pos : Pos} {n f : Str} (ho : Ev g o (.v (.ref 16))) (h1 : Ev g e (.s n)) (hn : inKeys n insL = true) (hf : formF n = f) (hs : SubK o e) (hs2 : ∀ P k u,subscripted (.Constant (.int 0) kk q1) false (.ref P) (.int k u) = operate [.ref P,.int k u] (getItem (.ref P) (.int k u))) : Ev g (.Subscript (.Subscript o e p) (.Constant (.int 0) kk q1) pos) (.s f) := .mk fun c m s Q E ok hl F N hQ =>
  Subscript_ (Subscript_ (ho.run c m s _ E ok hl F N fun y h' tk' e1 F' N'=>(show y = .ref 16 from e1) ▸ h1.run c m { s with heap := h',toks := tk' } _ E ok hl F' N' fun _ h2 tk2 ⟨t,e2⟩ F2 N2=>e2 ▸ ins_item F2 ok.X hn hf (fun a b t1 t2 ht=>wpAny_Constant_int (item_tuple_go ht (by decide) (by decide) (j := 0) rfl rfl (hQ _ h2 _ ⟨_,rfl⟩ F2 N2) (hs2 _ _ _))) (hs.1 _ _ _) (hs.2 _)))
theorem Ev.strI {e : Expr} {p pos : Pos} {n : Int} (h1 : Ev g e (.i n)) (hn : (if n < 0 then 0 - n else n) < 4611686018427387904) (hk : (g.f.cs.names.lookup ("str" : Str) == some .globalImplicit) = true) (hg : nsIn (hd.heap_39 g.w.params) mainGlobals ("str" : Str) = some none) (hs : ∀ env,starEach [e] env = [(false,eval e env)]) : Ev g (.Call (.Name "str" p) [e] [] pos) (.s (Str.ofString (toString n))) := .mk fun c m s Q E ok hl F N hQ =>
  Call_ (nameX_B F ok.X (topRead_of ok.T) hg boot_str (by decide) (callWith_type1 (args_cons (h1.run c m s _ E ok hl F N fun _ h' tk' ⟨t,e1⟩ F' N'=>e1 ▸ args_nil (str_of_int_fit hn (Int.le_refl _) fun _=>hQ _ h' _ ⟨_,rfl⟩ F' N')) (hs _)) (hs _) rfl) ok.k (eq_of_beq hk) (by decide)) rfl
theorem Bn.addB {x y : Str} {a b : Nat} (h1 : x.length ≤ a) (h2 : y.length ≤ b) (hz : a + b ≤ 1048576) : Bn .Add (.s x) (.s y) (.s (x ++ y)) := .mk fun _ _ _ _ _ _ _ ⟨_,e1⟩ ⟨_,e2⟩ hQ=>e1 ▸ e2 ▸ add_strB h1 h2 hz fun t tk=>hQ _ tk ⟨t,rfl⟩
theorem Bn.addS {x y : Str} (h : x.length + y.length ≤ 1048576) : Bn .Add (.s x) (.s y) (.s (x ++ y)) := .mk fun _ _ _ _ _ _ _ ⟨_,e1⟩ ⟨_,e2⟩ hQ=>e1 ▸ e2 ▸ PyProof.Rows.add_str (fun t tk=>hQ _ tk ⟨t,rfl⟩) (by rw [sizeLine_eq];omega)
end
theorem enterL {w : World} {mean : ExcName → Option Value} {mg mb : Str → Option Value} {f : Addr} {D : Nat} {news : List (Addr × Obj)} {vs : List Value} {ys : List Str} {pre : Prop} {name qual : Str} {params : Arguments} {body : List Stmt} {scope : Scope} {dV kV doc pm cdv ct oc : Value} {an od : Option Addr} {osl : Array (Option Value)} {binds : List (Str × Value)} {ρ : Lo}
    (ho : (hd.heap_39 w.params).lookup f = some ⟨oc,od,.func (fnOf name qual params body scope dV kV doc pm an cdv ct),osl⟩) (hcd : codeIn (hd.heap_39 w.params) cdv qual = true)
    (hbind : ∀ s,BindsTo s (fnOf name qual params body scope dV kV doc pm an cdv ct) ⟨vs,[]⟩ binds) (hloc : (binds.all fun x=>decide (scope.names.lookup x.1 = some .local)) = true) (hρ : Lg ρ binds.reverse)
    (hco : scope.isCoroutine = false) (hgen : scope.isGenerator = false) (hk : scope.kind = .function) (hcell : ∀ x ∈ scope.names,x.2 ≠ .cell)
    (h : pre → El ⟨w,mean,mg,mb,⟨qual,scope,f,cdv⟩,D,news,ρ⟩ body ys) : CbK w mean mg mb f (D + 1) news pre vs (OpsK news ys) := by
  intro dp un gd cn cs a ccd cl outer A₀ base h₀ L m s Q E B F X N T hks hp hd hu hQ
  refine wpAny_call (code_def B F X N T rfl rfl hks ho hcd (by show dp < recursionLimit;omega) (hbind s) (locs hloc) (fun g L' h₁ FG F' N' B' X' T'=>?_) hco hgen hk hcell)
  exact (h hp).run ⟨dp + 1,un + 3,gd,[],envX cn cs L a ccd cl :: outer,ktrTop dp un gd cn cs L a ccd cl outer,base,g,L'⟩ _ { s with heap := h₁,toks := s.toks + binds.length } _ _
    ⟨B',X',T',hk,by show dp + 1 + D < recursionLimit;omega,by show un + 3 + 8 * D < cLine;omega⟩ hρ.locs F' N' fun Dd vs' n h' tk' m' hv F'' N''=>leaveK_ F'' N'' fun F3 N3=>hQ Dd vs' n h' tk' hv F3 N3
end
section
theorem c_reg {w : World} {mean : ExcName → Option Value} {mg mb : Str → Option Value} {news : List (Addr × Obj)} (d : Addr) (o : Obj) (kvs : List (Str × Value)) (tk : Tok) (k : Str) (i : Int) (ti : Tok) :
    Cb w mean mg mb 351 10 news (((d,o) ∈ news ∧ o.IsDictOf (PySem.strKind PySem.Challenge.rw_nm0011_01.row.prog w) kvs ∧ PySem.valueAt kvs k = some (.int i ti)) ∧ 0 ≤ i ∧ i < 32) [.ref d,.str k tk] (fun t=>.str (regF i) t) := by
  dsimp only [Cb]
  k_fill
  intros
  rename_i hpre _ _ hret
  k_with_none
  k_with "subscriptTail Name Subscript ref int m" => ((with_reducible show wpAny _ _ (subscriptTail _ _ (Value.ref 15) (Value.int _ _)) _ _ _);k_dflt (refine' reg_item ?k1 ?k2 ?k3 ?_;(case k1=>k_asm);(case k2=>k_asm);(case k3=>first | assumption | exact ⟨by assumption,by assumption⟩));intro t9)
  k_with "subscriptTail Name Name ref str m" => (k_dflt (refine' dict_item ?k1 ?k2 ?k3 ?k5 ?_;(case k1=>k_asm);(case k2=>first | assumption | k_mem);(case k3=>assumption);(case k5=>assumption)))
  obtain ⟨⟨hm9,hd9,hk9⟩,hi9⟩ := hpre
  refine wpAny_call ?_
  k_dflt cell_enter
  (try (rename Fr _ _ _ _=>Fm9;replace Fm9 : Fr _ _ _ (fun y=>List.lookup y [(Str.ofString "key",.str k tk),(Str.ofString "fields",.ref d)]) := Fm9))
  k_steps
  all_goals (first | (refine' cb_retS hret ?e1 ?e2 ?e3;(case e2=>k_asm);(case e3=>first | k_asm | (refine' cb_drop ?cbN ?cbS;(case cbN=>assumption);(case cbS=>kcj_all)));(case e1=>rfl)))
end
section
theorem c_place {w : World} {mean : ExcName → Option Value} {mg mb : Str → Option Value} {news : List (Addr × Obj)} (n : Str) (tn : Tok) :
    Cb w mean mg mb 358 10 news (True) [.str n tn] (fun t=>.bool (placeF n)) := by
  dsimp only [Cb]
  k_fill
  intros
  rename_i hpre _ _ hret
  k_with_none
  refine wpAny_call ?_
  k_dflt cell_enter
  (try (rename Fr _ _ _ _=>Fm9;replace Fm9 : Fr _ _ _ (fun y=>List.lookup y [(Str.ofString "name",.str n tn)]) := Fm9))
  k_steps
  all_goals (first | (refine' cb_retB hret ?e1 ?e2 ?e3;(case e2=>k_asm);(case e3=>first | k_asm | (refine' cb_drop ?cbN ?cbS;(case cbN=>assumption);(case cbS=>kcj_all)));(case e1=>first | exact placeE1 (by assumption) | exact placeE2 (by assumption))))
end
section
open PyProof.Rows.LCg PySem.Calls
theorem c_fset {w : World} {mean : ExcName → Option Value} {mg mb : Str → Option Value} {news : List (Addr × Obj)} (b : Int) (tb : Tok) :
    Cb w mean mg mb 344 10 news (0 ≤ b ∧ b < 16) [.int b tb] (fun t=>.str (fsetF b) t) := by
  dsimp only [Cb]
  k_fill
  intros
  rename_i hpre _ _ hret
  k_with_none
  k_with "eval ListComp m" => (k_extra "comp")
  k_with "eval Name m" => ((with_reducible show wpAny _ _ (PySem.eval (PySem.Expr.Name _ _) (compEnvC _ _ _ _)) _ _ _);k_dflt (refine' ld_freeC ?k1 ?k2 ?k3 ?k4 ?_ ?k5 ?k6;(case k5=>rfl);(case k6=>rfl);(case k1=>k_asm);(case k2=>rfl);(case k3=>k_mem);(case k4=>k_asm);k_whole))
  k_with "SrcTwo" => ((obtain ⟨_,hl9,ht9⟩ := fb_at (by assumption));k_dflt (refine' SrcTwo.mk' _ _ _ _ rfl rfl ?k1 ?k2 hl9 ht9 ?k3 ?kel ?kq;(case k1=>k_asm);(case k2=>k_asm);(case k3=>exact Nat.le_of_ble_eq_true rfl));(case' kel=>(intro g9 p9 hp9 t9 u9 I9 oI9 C9 oC9 D9 oD9 m9 h9 tk9 E9 hC9 ha9 hb9 F9 N9 off9 ne9;(try simp only [PyProof.Rows.LCg.Off3,and_true] at off9);(try dsimp only)));(case' kq=>(intro ys9 D9 h9 tk9 hy9 F9 N9 o9;(try simp only [PyProof.Rows.LCg.Off1,and_true] at o9);(try dsimp only))))
  k_with "TurnB" => (k_dflt (refine' turnB_intro ?k1 ?_ ?_;(case k1=>exact rfl));(all_goals intro q9))
  k_with "Plain" => (k_dflt (refine' plain_intro ?k1 ?k2 ?k3 ?kr;(case k1=>k_asm);(case k2=>k_asm);(case k3=>kcj_all);(case kr=>first | exact trivial | exact ⟨_,rfl⟩)))
  k_with "call builtin:str.join m" => (k_dflt (refine' join_fb ?k1 ?k2 ?k5 ?_;(case k1=>k_asm);(case k2=>k_mem);(case k5=>assumption));intro t9 k9)
  k_with "comp" => (k_dflt (refine' comp_two (keep := fun p=>Builtin.bitAnd b p.2 != 0) ?k1 ?k2 ?k3 ?k4 ?k5 ?k6 ?k7 ?k8 ?_;(case k1=>k_asm);(case k2=>with_unfolding_all rfl);(case k3=>decide);(case k4=>rfl);(case k5=>decide);(case k6=>rfl);(case k7=>rfl);(case k8=>decide)))
  refine wpAny_call ?_
  k_dflt (refine' code_defC ?k1 ?k2 ?k3 ?k4 ?k5 ?kA ?kF ?kK ?k6 ?k7 ?k8 ?k9 ?kB ?kD ?_ ?c2 ?c3 ?c4;(case kA | kF=>exact rfl);(case kK=>assumption);(case k1 | k2 | k3 | k4 | k5=>k_asm);(case k6 | k7=>k_is);(case k8=>ktr_room);(case k9=>exact BindsTo.of_eq rfl);(case kB=>exact rfl);(case kD=>decide +kernel);(case c2 | c3 | c4=>exact rfl);k_whole;intro g' L' h' tk' cells' FG' F' N' Y' B' X' T' l1;(try k_lt l1);k_cells Y';(try simp only [List.cons_append,List.nil_append] at N');(try dsimp only);(try k_lift B');(try k_fold))
  (try (rename Fr _ _ _ _=>Fm9;replace Fm9 : Fr _ _ _ (fun y=>List.lookup y [(Str.ofString "bits",.int b tb)]) := Fm9))
  k_steps
  all_goals (first | (refine' cb_retS hret ?e1 ?e2 ?e3;(case e2=>k_asm);(case e3=>first | k_asm | (refine' cb_drop ?cbN ?cbS;(case cbN=>assumption);(case cbS=>kcj_all)));(case e1=>first | exact fset_e1 (by assumption) | exact fset_e2 (by assumption))))
end
section
open PySem.Calls PyProof.V
structure Dct (w : World) (o : Obj) (l : List (Str × Value)) (n : Nat) : Prop where
  is : o.IsDictOf (PySem.strKind PRG w) l
  fl : ∃ D,FlatPairs PyData.str l D ∧ D.length ≤ n
theorem putD_le (k v : PyData) : ∀ (D : List (PyData × PyData)),(putD k v D).length ≤ D.length + 1 := fun D=>(LenLe.self D).put k v
section
variable {g : G}
structure Xd (g : G) (body : List Stmt) (R : List (Addr × Obj) → Value → Prop) : Prop where
  run : ∀ (c : Rn) (m : Str → Option Value) (s : Shared) (Q : Flow → Shared → Prop) (E : Value → Shared → Prop),Ok g c → Locs g.ρ m → Fr c.h₀ c.L s.heap m → News c.h₀ c.L s.heap g.N → PassesOwn (model PRG g.w) (c.A g.f) (c.env g.f) E →
    (∀ x N' h' tk' m',R N' x → Fr c.h₀ c.L h' m' → News c.h₀ c.L h' N' → Q (.ret x) { s with heap := h',toks := tk' }) → wpAny (model PRG g.w) (c.A g.f) (execs body (c.env g.f)) Q E s
theorem Xd.asg {x : Str} {p pos : Pos} {e : Expr} {rest : List Stmt} {v : PV} {R : List (Addr × Obj) → Value → Prop} (h : Ev g e v) (h2 : Xd (g.set x v) rest R) (hk : (g.f.cs.names.lookup x == some .local) = true) (hs : ∀ env : Env,env.kindOf = (fun y=>g.f.cs.names.lookup y) → swapsWith e (some (.Name x p)) pos.line env = pure false) : Xd g (.Assign [.Name x p] e pos :: rest) R := .mk fun c m s Q E o hl F N hE hQ =>
  wpAny_execs_cons (wpAny_Assign_Name (h.run c m s _ E o hl F N fun y h' tk' hy F' N'=>storeX_L F' N' (fun h'' F'' N''=>h2.run c _ { s with heap := h'',toks := tk' + 1 } Q E o.set (locs_set hl hy) F'' N'' hE hQ) o.k (eq_of_beq hk)) (hs _ rfl))
theorem Xd.ifF {t : Expr} {body rest : List Stmt} {pos : Pos} {b : Bool} {R : List (Addr × Obj) → Value → Prop} (h : Te g t b) (hb : b = false) (h1 : Xd g rest R) : Xd g (.If t body [] pos :: rest) R := .mk fun c m s Q E o hl F N hE hQ =>
  wpAny_execs_cons (wpAny_If (h.run c m s _ E _ o hl F N rfl fun h' tk' F' N'=>by
    subst hb
    exact wpAny_execs_nil (h1.run c m { s with heap := h',toks := tk' } Q E o hl F' N' hE hQ)))
theorem Xd.dict0 {x : Str} {p pos q : Pos} {rest : List Stmt} {R : List (Addr × Obj) → Value → Prop} (h2 : ∀ d o,(d == sysModules) = false → (∀ p ∈ g.N,p.1 < d) → Dct g.w o [] 0 → Xd { g.set x (.v (.ref d)) with N := (d,o) :: g.N } rest R) (hk : (g.f.cs.names.lookup x == some .local) = true) (hs : ∀ env : Env,env.kindOf = (fun y=>g.f.cs.names.lookup y) → swapsWith (.Dict [] [] q) (some (.Name x p)) pos.line env = pure false) : Xd g (.Assign [.Name x p] (.Dict [] [] q) pos :: rest) R := .mk fun c m s Q E o hl F N hE hQ =>
  wpAny_execs_cons (wpAny_Assign_Name (newDict_K F N (topRead_of o.T).nolimit fun d h' ob F' N' lt lo hd _ _ _=>storeX_L F' N' (fun h'' F'' N''=>(h2 d ob lo lt ⟨hd,[],.nil,Nat.le_refl _⟩).run c _ { s with heap := h'',toks := s.toks + 1 } Q E ⟨o.B,o.X,o.T,o.k,o.d,o.u⟩ (locs_set hl rfl) F'' N'' hE hQ) o.k (eq_of_beq hk)) (hs _ rfl))
inductive Prs (P : Params) : List Value → List (Str × Int) → Prop
  | nil : Prs P [] []
  | cons {a : Addr} {x : Str} {n : Int} {t u : Tok} {lo : Obj} {k : Nat} {vs : List Value} {l : List (Str × Int)} : (hd.heap_39 P).lookup a = some lo → lo.cls = .type "tuple" → lo.data = .seq #[.str x t,.int n u] k → Prs P vs l → Prs P (.ref a :: vs) ((x,n) :: l)
noncomputable def Puts (v : Int) : List (Str × Int) → List (Str × Value) → List (Str × Value) → Prop
  | [],a,b=>a = b
  | (k,n) :: r,a,b=>∃ t,Puts v r (PySem.stored a k (.int (fldF v n.toNat) t)) b
theorem locs_skip {ρ : Lo} {m : Str → Option Value} {x : Str} {y : Value} (h : Locs ρ m) (hn : ρ.lookup x = none) : Locs ρ (fun z=>if z = x then some y else m z) := fun z v hz=>by
  have : z ≠ x := fun e=>by rw [e,hn] at hz;cases hz
  obtain ⟨q,h1,h2⟩ := h z v hz
  exact ⟨q,(if_neg this).trans h1,h2⟩
noncomputable abbrev turnB (f k wd sh : Str) (p1 p2 p3 p4 p5 p6 p7 p8 p9 : Pos) (c : Nat) : List Stmt := [.Assign [.Subscript (.Name f p1) (.Name k p2) p3] (.BinOp (.BinOp (.Name wd p4) .RShift (.Name sh p5) p6) .BitAnd (.Constant (.int 31) c p7) p8) p9]
section
variable {c : Rn} {s : Shared} {Q : Flow → Shared → Prop} {E : Value → Shared → Prop} {f k wd sh : Str} {p1 p2 p3 p4 p5 p6 p7 p8 p9 q1 q2 q3 : Pos} {cc kk : Nat} {v : Int} {d : Addr} {N₀ : List (Addr × Obj)} {I : Addr}
theorem turns (ok : Ok g c) (hE : PassesOwn (model PRG g.w) (c.A g.f) (c.env g.f) E) (hI : I ≠ d) (hIN : ∀ p ∈ N₀,p.1 < I) (hdI : d < I) (hd : ∀ p ∈ N₀,p.1 < d)
    (hr : g.ρ.lookup f = some (.v (.ref d)) ∧ g.ρ.lookup wd = some (.i v) ∧ g.ρ.lookup k = none ∧ g.ρ.lookup sh = none) (hkk : k ≠ sh ∧ f ≠ k ∧ f ≠ sh ∧ wd ≠ k ∧ wd ≠ sh)
    (hn : (g.f.cs.names.lookup k == some .local && (g.f.cs.names.lookup sh == some .local)) = true) (hb : (g.f.cs.names.lookup f == some .local && !(f == ("__debug__" : Str)) && (g.f.cs.names.lookup wd == some .local && !(wd == ("__debug__" : Str))) && !(k == ("__debug__" : Str)) && !(sh == ("__debug__" : Str))) = true)
    (hs : ∀ env : Env,env.kindOf = (fun y=>g.f.cs.names.lookup y) → swapsWith (.BinOp (.BinOp (.Name wd p4) .RShift (.Name sh p5) p6) .BitAnd (.Constant (.int 31) cc p7) p8) (some (.Subscript (.Name f p1) (.Name k p2) p3)) p9.line env = pure false) :
    ∀ {vs : List Value} {l : List (Str × Int)},Prs g.w.params vs l → (∀ p ∈ l,0 ≤ p.2) → ∀ (m : Str → Option Value) (o : Obj) (kvs : List (Str × Value)) (n : Nat),Locs g.ρ m → Dct g.w o kvs n → n + l.length ≤ 1000 →
    (∀ h tk m' o' kvs',Locs g.ρ m' → Puts v l kvs kvs' → Dct g.w o' kvs' (n + l.length) → Fr c.h₀ c.L h m' → News c.h₀ c.L h ((d,o') :: N₀) → Q .next { s with heap := h,toks := tk }) →
    ItemsRest PRG g.w (c.A g.f) E c.h₀ (c.env g.f) (.Tuple [.Name k q1,.Name sh q2] kk q3) (turnB f k wd sh p1 p2 p3 p4 p5 p6 p7 p8 p9 cc) Q s [(I,"tuple_iterator")] [] (vs.map Itm.val) m ((d,o) :: N₀) := by
  intro vs l hp
  induction hp with
  | nil=>exact fun _ m o kvs n hl hD _ hQ=>ItemsRest.zero fun h tk F N=>hQ h tk m o kvs hl rfl hD F N
  | @cons a x i t u lo kq vs l h1 h2 h3 r ih =>
    intro h0 m o kvs n hl hD' hz hQ
    obtain ⟨hD,D,hf,hlen⟩ := hD'
    simp only [Bool.and_eq_true,beq_iff_eq,Bool.not_eq_true'] at hn hb
    have e1 : (k == f) = false := by simpa using Ne.symm hkk.2.1
    have hi : 0 ≤ i := h0 (x,i) (.head _)
    refine ItemsRest.val fun h tk F=>AllObj.cons fun oI _=>AllObj.nil fun N=>?_
    refine unpackK (s := { s with heap := h,toks := tk }) F N ok.X h1 h2 h3 rfl rfl rfl fun ha Fa Na=>?_
    refine assignInOrder_cons (PyProof.Rows.assign_Name (storeX_L (s := { s with heap := ha,toks := tk }) Fa Na (fun hb' Fb Nb=>?_) ok.k hn.1))
    refine assignInOrder_cons (PyProof.Rows.assign_Name (storeX_L (s := { s with heap := hb',toks := tk + 1 }) Fb Nb (fun hc Fc Nc=>?_) ok.k hn.2))
    refine assignInOrder_nil ?_
    have L2 : Locs ((sh,PV.i i) :: (k,PV.s x) :: g.ρ) (fun y=>if y = sh then some (.int i u) else if y = k then some (.str x t) else m y) := locs_set (v := .i i) (locs_set (v := .s x) hl ⟨t,rfl⟩) ⟨u,rfl⟩
    have look : ∀ z w',z ≠ k → z ≠ sh → g.ρ.lookup z = some w' → ((sh,PV.i i) :: (k,PV.s x) :: g.ρ).lookup z = some w' := fun z w' z1 z2 hz=>by
      have e1 : (z == sh) = false := by simpa using z2
      have e2 : (z == k) = false := by simpa using z1
      rw [List.lookup_cons,e1];show List.lookup z ((k,PV.s x) :: g.ρ) = _;rw [List.lookup_cons,e2];exact hz
    let g' : G := { g with ρ := (sh,PV.i i) :: (k,PV.s x) :: g.ρ,N := (I,oI) :: (d,o) :: N₀ }
    have hv : Ev g' (.BinOp (.BinOp (.Name wd p4) .RShift (.Name sh p5) p6) .BitAnd (.Constant (.int 31) cc p7) p8) (.i (fldF v i.toNat)) :=
      Ev.bin (Ev.bin (Ev.loc (by simp [g',hb.1.1.2.1,hb.1.1.2.2]) (look _ _ hkk.2.2.2.1 hkk.2.2.2.2 hr.2.1)) (Ev.loc (by simp [g',hn.2,hb.2]) (by show List.lookup sh ((sh,PV.i i) :: _) = _;rw [List.lookup_cons,beq_self_eq_true])) (Bn.shrS hi)) Ev.int Bn.and
    have hfd : Ev g' (.Name f p1) (.v (.ref d)) := Ev.loc (by simp [g',hb.1.1.1.1,hb.1.1.1.2]) (look _ _ hkk.2.1 hkk.2.2.1 hr.1)
    have hkey : Ev g' (.Name k p2) (.s x) := Ev.loc (by simp [g',hn.1,hb.1.2]) (by
      have e2 : (k == sh) = false := by simpa using hkk.1
      show List.lookup k ((sh,PV.i i) :: _) = _
      rw [List.lookup_cons,e2];show List.lookup k ((k,PV.s x) :: g.ρ) = _;rw [List.lookup_cons,beq_self_eq_true])
    have ok' : Ok g' c := ⟨ok.B,ok.X,ok.T,ok.k,ok.d,ok.u⟩
    refine wpAny_execs_cons (wpAny_Assign_Subscript (hv.run c _ { s with heap := hc,toks := tk + 1 + 1 } _ E ok' L2 Fc Nc fun xv h4 tk4 ⟨tv,ev⟩ F4 N4=>?_) (hs _ rfl))
    refine hfd.run c _ { s with heap := h4,toks := tk4 } _ E ok' L2 F4 N4 fun xd h5 tk5 ed F5 N5=>?_
    refine hkey.run c _ { s with heap := h5,toks := tk5 } _ E ok' L2 F5 N5 fun xk h6 tk6 ⟨tk',ek⟩ F6 N6=>?_
    have ed : xd = .ref d := ed
    subst ev;subst ed;subst ek
    refine setItem_K (s := { s with heap := h6,toks := tk6 }) PyProof.V.same_str (strKind_is _ _ _ _) (Flat.int _ _) F6 N6 (.tail hI (.head fun p hp=>Nat.ne_of_lt (hd p hp))) hD hf (fun h7 o7 F7 N7 hD7 hf7=>?_) (by rw [sizeLine_eq];simp at hz;omega)
    refine wpAny_execs_nil ?_
    refine unr_head (s₁ := { s with heap := h,toks := tk }) F7 N7 (allLt_of fun p hp=>by rcases List.mem_cons.mp hp with rfl | hp;exact hdI;exact hIN p hp) ⟨by k_subL,?_⟩
    have hz' : n + 1 + l.length ≤ 1000 := by simp at hz;omega
    have e9 : n + 1 + l.length = n + ((x,i) :: l).length := by rw [List.length_cons];omega
    refine ih (fun p hp=>h0 p (.tail _ hp)) _ o7 _ (n + 1) (locs_skip (locs_skip hl hr.2.2.1) hr.2.2.2) ⟨hD7,_,hf7,Nat.le_trans (putD_le _ _ _) (by omega)⟩ hz' fun h tk m' o' kvs' a1 a2 a3 a4 a5=>?_
    rw [e9] at a3
    exact hQ h tk m' o' kvs' a1 ⟨_,a2⟩ a3 a4 a5
theorem Xd.pairs {iter : Expr} {pos : Pos} {T : Addr} {rest : List Stmt} {R : List (Addr × Obj) → Value → Prop} {o : Obj} {l : List (Str × Int)} {vs : List Value} {lo : Obj} {n : Nat} (hN : g.N = (d,o) :: N₀) (h1 : Ev g iter (.v (.ref T))) (hD : Dct g.w o [] 0) (hlt : ∀ p ∈ N₀,p.1 < d)
    (ht : (hd.heap_39 g.w.params).lookup T = some lo ∧ lo.cls = .type "tuple" ∧ lo.data = .seq (List.toArray vs) n) (hp : Prs g.w.params vs l) (hc : (decide (l.length ≤ 20) && l.all fun p=>decide (0 ≤ p.2)) = true)
    (hr : g.ρ.lookup f = some (.v (.ref d)) ∧ g.ρ.lookup wd = some (.i v) ∧ g.ρ.lookup k = none ∧ g.ρ.lookup sh = none) (hkk : k ≠ sh ∧ f ≠ k ∧ f ≠ sh ∧ wd ≠ k ∧ wd ≠ sh)
    (hn : (g.f.cs.names.lookup k == some .local && (g.f.cs.names.lookup sh == some .local)) = true) (hb : (g.f.cs.names.lookup f == some .local && !(f == ("__debug__" : Str)) && (g.f.cs.names.lookup wd == some .local && !(wd == ("__debug__" : Str))) && !(k == ("__debug__" : Str)) && !(sh == ("__debug__" : Str))) = true)
    (hs : ∀ env : Env,env.kindOf = (fun y=>g.f.cs.names.lookup y) → swapsWith (.BinOp (.BinOp (.Name wd p4) .RShift (.Name sh p5) p6) .BitAnd (.Constant (.int 31) cc p7) p8) (some (.Subscript (.Name f p1) (.Name k p2) p3)) p9.line env = pure false) (hfs : ∀ env x,foldedSetIterable iter env x = pure x)
    (h2 : ∀ o' kvs,Puts v l [] kvs → Dct g.w o' kvs 20 → Xd { g with N := (d,o') :: N₀ } rest R) : Xd g (.For (.Tuple [.Name k q1,.Name sh q2] kk q3) iter (turnB f k wd sh p1 p2 p3 p4 p5 p6 p7 p8 p9 cc) [] pos :: rest) R := .mk fun c m s Q E ok hl F N hE hQ=>by
  rw [hN] at N
  simp only [Bool.and_eq_true,decide_eq_true_eq,List.all_eq_true] at hc
  refine wpAny_execs_cons (For_turns F (h1.run c m s _ E ok hl F (by rw [hN];exact N) fun x h' tk' e F' N'=>?_) (hfs _) hE)
  have e : x = .ref T := e
  rw [hN] at N'
  subst e
  have hvl : ∀ {vs : List Value} {l : List (Str × Int)},Prs g.w.params vs l → vs.length = l.length := fun {vs l} h=>by induction h with
    | nil=>rfl
    | cons _ _ _ _ ih=>exact congrArg (· + 1) ih
  refine iter_tupK (s := { s with heap := h',toks := tk' }) rfl F' N' ok.X ht.1 ht.2.1 ht.2.2 (by rw [hvl hp];omega) fun I hI=>?_
  have hdI : d < I := hI (d,o) (.head _)
  refine turns ok hE (Ne.symm (Nat.ne_of_lt hdI)) (fun p hp=>hI p (.tail _ hp)) hdI hlt hr hkk hn hb hs hp hc.2 m o [] 0 hl hD (by omega) fun h tk m' o' kvs' a1 a2 a3 a4 a5=>?_
  exact (h2 o' kvs' a2 ⟨a3.is,by obtain ⟨D,x1,x2⟩ := a3.fl;exact ⟨D,x1,by omega⟩⟩).run c m' { s with heap := h,toks := tk } Q E ⟨ok.B,ok.X,ok.T,ok.k,ok.d,ok.u⟩ a1 a4 a5 hE hQ
end
theorem Xd.ifPut {t e : Expr} {f x : Str} {kk : Nat} {p1 p2 p3 pos pos2 : Pos} {rest : List Stmt} {R : List (Addr × Obj) → Value → Prop} {b : Bool} {d : Addr} {o : Obj} {N₀ : List (Addr × Obj)} {kvs : List (Str × Value)} {n : Int} (hN : g.N = (d,o) :: N₀) (h : Te g t b) (hbt : b = true) (hd : ∀ p ∈ N₀,p.1 < d) (hD : Dct g.w o kvs 20)
    (h1 : Ev g e (.i n)) (hf : Ev g (.Name f p1) (.v (.ref d))) (hs : ∀ env : Env,env.kindOf = (fun y=>g.f.cs.names.lookup y) → swapsWith e (some (.Subscript (.Name f p1) (.Constant (.str x) kk p2) p3)) pos.line env = pure false)
    (h2 : ∀ o' tv,Dct g.w o' (PySem.stored kvs x (.int n tv)) 21 → Xd { g with N := (d,o') :: N₀ } rest R) : Xd g (.If t [.Assign [.Subscript (.Name f p1) (.Constant (.str x) kk p2) p3] e pos] [] pos2 :: rest) R := .mk fun c m s Q E ok hl F N hE hQ=>by
  refine wpAny_execs_cons (wpAny_If (h.run c m s _ E _ ok hl F N rfl fun h' tk' F' N'=>?_))
  subst hbt
  refine wpAny_execs_cons (wpAny_Assign_Subscript (h1.run c m { s with heap := h',toks := tk' } _ E ok hl F' N' fun xv h4 tk4 ⟨tv,ev⟩ F4 N4=>?_) (hs _ rfl))
  refine hf.run c _ { s with heap := h4,toks := tk4 } _ E ok hl F4 N4 fun xd h5 tk5 ed F5 N5=>?_
  have ed : xd = .ref d := ed
  subst ev;subst ed
  rw [hN] at N5
  obtain ⟨D,hfl,hle⟩ := hD.fl
  refine Constant_str (setItem_K PyProof.V.same_str (strKind_is _ _ _ _) (Flat.int _ _) (s := { s with heap := h5,toks := tk5 + 1 }) F5 N5 (.head fun p hp=>Nat.ne_of_lt (hd p hp)) hD.is hfl (fun h7 o7 F7 N7 hD7 hf7=>wpAny_execs_nil ?_) (by rw [sizeLine_eq];omega))
  exact (h2 o7 tv ⟨hD7,_,hf7,Nat.le_trans (putD_le _ _ _) (by omega)⟩).run c m { s with heap := h7,toks := _ } Q E ⟨ok.B,ok.X,ok.T,ok.k,ok.d,ok.u⟩ hl F7 N7 hE hQ
theorem Xd.pair {x y : Str} {p1 p2 p3 pos : Pos} {kk : Nat} {n : Str} {d : Addr} {rest : List Stmt} {R : List (Addr × Obj) → Value → Prop} (h1 : Ev g (.Name x p1) (.s n)) (h2 : Ev g (.Name y p2) (.v (.ref d))) (hR : ∀ T tn,R ((T,{ cls := .type "tuple",data := .seq #[.str n tn,.ref d] }) :: g.N) (.ref T)) : Xd g (.Return (some (.Tuple [.Name x p1,.Name y p2] kk p3)) pos :: rest) R := .mk fun c m s Q E ok hl F N hE hQ =>
  wpAny_execs_cons (wpAny_Return_some (Tuple_ (args_cons (h1.run c m s _ E ok hl F N fun _ h' tk' ⟨t,e1⟩ F' N'=>e1 ▸ args_cons (h2.run c m { s with heap := h',toks := tk' } _ E ok hl F' N' fun z h2' tk2 e2 F2 N2=>(show z = .ref d from e2) ▸ args_nil (kup_newTuple (s := { s with heap := h2',toks := tk2 }) F2 N2 (fun T h3 F3 N3 _=>hQ _ _ h3 tk2 m (hR T t) F3 N3) (by rw [sizeLine_eq];exact (by decide : 2 ≤ 16777216)))) rfl) rfl)))
theorem pl_look (P : Params) : ∃ es n,(hd.heap_39 P).lookup 67 = some { cls := .type "dict",data := .dict es n } ∧ KeysLit P es.toList := ⟨_,_,rfl,by k_keys⟩
theorem bd_look (P : Params) : ∃ es n,(hd.heap_39 P).lookup 90 = some { cls := .type "dict",data := .dict es n } ∧ KeysLit P es.toList := ⟨_,_,rfl,by k_keys⟩
theorem Ev.plc {o e : Expr} {pos : Pos} {x : Str} {v : Value} (ho : Ev g o (.v (.ref 67))) (h1 : Ev g e (.s x)) (hv : nsIn (hd.heap_39 g.w.params) 67 x = some (some v)) (hs : ∀ P t,subscripted e false (.ref P) (.str x t) = operate [.ref P,.str x t] (getItem (.ref P) (.str x t))) : Ev g (.Subscript o e pos) (.v v) := .mk fun c m s Q E ok hl F N hQ =>
  let ⟨_,_,hl,hk⟩ := pl_look g.w.params
  Subscript_ (ho.run c m s _ E ok ‹_› F N fun y h' tk' e1 F' N'=>(show y = .ref 67 from e1) ▸ h1.run c m { s with heap := h',toks := tk' } _ E ok ‹_› F' N' fun _ h2 tk2 ⟨t,e2⟩ F2 N2=>e2 ▸ topItem_K F2 ok.X hl hk hv (hQ _ h2 _ rfl F2 N2) (hs _ _))
theorem Te.bnd {a b : Expr} {pos : Pos} {x : Str} {r : Option Value} (h1 : Ev g a (.s x)) (h2 : Ev g b (.v (.ref 90))) (hv : nsIn (hd.heap_39 g.w.params) 90 x = some r) (hb : behindInMarks .In b = false) : Te g (.Compare a [.In] [b] pos) r.isSome := .mk fun c m s Q E whole o hl' F N _ hQ =>
  let ⟨_,_,hl,hk⟩ := bd_look g.w.params
  wpAny_isTrue_Compare1 (h1.run c m s _ E o hl' F N fun _ h' tk' ⟨_,e⟩ F' N'=>e ▸ h2.run c m { s with heap := h',toks := tk' } _ E o hl' F' N' fun y h2' tk2 e2 F2 N2=>(show y = .ref 90 from e2) ▸ topIn_K F2 o.X hl hk hv (by decide) (wpAny_truthy_bool (hQ h2' _ F2 N2))) hb
end
end
section
open PyProof.Rows.LCg PySem.Calls
theorem c_words {w : World} {mean : ExcName → Option Value} {mg mb : Str → Option Value} {news : List (Addr × Obj)} (B : Array UInt8) (tb : Tok) (ks : List Int) :
    CbK w mean mg mb 384 10 news (KBw.bInts B = ks ∧ ks.length ≤ 100) [.bytes B tb] (fun h₀ L m s Q=>∀ (D : Addr) (ys : List Value) (h' : Heap) (tk' : Nat),IntsAre ys (wordsF ks) → (∀ p ∈ news,p.1 ≠ D) → Fr h₀ L h' m → News h₀ L h' ((D,PyProof.Rows.LCg.lst ys) :: news) → Q (.ref D) { s with heap := h',toks := tk' }) := by
  dsimp only [CbK]
  k_fill
  intros
  rename_i hpre _ _ hret
  k_with_none
  have hB := hpre.1
  have hk := hpre.2
  clear hpre
  k_with "comp" => ((with_reducible show wpAny _ _ (PySem.eval (PySem.Expr.ListComp _ [⟨_,_,[],_⟩] _ _) _) _ _ _);k_dflt (refine' comp_range (R := fun i y=>∃ t,y = Value.int (KFB.value ((ks.drop (4 * i)).take 4).reverse) t) ?k1 ?k2 ?k3 ?k4 ?k5 ?k6 ?_;(case k1=>k_asm);(case k2=>with_unfolding_all rfl);(case k3=>decide);(case k4=>rfl);(case k5=>decide);(case k6=>rfl)))
  k_with "SrcRange" => (k_dflt (refine' SrcRange.mk' _ _ _ _ _ _ _ (ks.length / 4) _ rfl rfl ?k1 ?k2 ?k3 (wd_small _ hk) (wd_size _) ?k6 ?kel ?kq;(case k1=>k_asm);(case k2=>k_asm);(case k3=>assumption);(case k6=>(rw [sizeLine_eq];omega));(case' kel=>(intro g9 i9 hi9 v9 I9 oI9 C9 oC9 D9 oD9 m9 h9 tk9 E9 hv9 hC9 hx9 F9 N9 off9 ne9;obtain ⟨t9,e9⟩ := hv9;subst e9;(try simp only [PyProof.Rows.LCg.Off3,and_true] at off9);(try dsimp only)));(case' kq=>(intro ys9 D9 h9 tk9 hl9 hy9 F9 N9 o9;(try simp only [PyProof.Rows.LCg.Off1,and_true] at o9);(try dsimp only)))))
  k_with "Plain" => (k_dflt (refine' plain_intro ?k1 ?k2 ?k3 ?kr;(case k1=>k_asm);(case k2=>k_asm);(case k3=>kcj_all);(case kr=>k_extra "elt")))
  k_with "free" => ((with_reducible show wpAny _ _ (PySem.eval (PySem.Expr.Name _ _) (compEnvC _ _ _ _)) _ _ _);k_dflt (refine' ld_freeC ?k1 ?k2 ?k3 ?k4 ?_ ?k5 ?k6;(case k5=>rfl);(case k6=>rfl);(case k1=>k_asm);(case k2=>rfl);(case k3=>k_mem);(case k4=>k_asm);k_whole))
  k_with "elt" => exact ⟨_,rfl⟩
  k_with "call ref cons nil" => ((rename KBw.bInts (KBy.picked _ _ _) = _=>kb9);k_dflt (refine' KFB.call_little (ks := (ks.drop (4 * i9)).take 4) ?k1 ?k2 ?k3 ?k4 ?_;(case k1=>k_asm);(case k2=>k_mem);(case k3=>exact wd_cut hi9 kb9);(case k4=>exact Nat.le_trans (List.length_take_le _ _) (by decide)));intro t9 k9)
  refine wpAny_call ?_
  k_dflt (refine' code_defC ?k1 ?k2 ?k3 ?k4 ?k5 ?kA ?kF ?kK ?k6 ?k7 ?k8 ?k9 ?kB ?kD ?_ ?c2 ?c3 ?c4;(case kA | kF=>exact rfl);(case kK=>assumption);(case k1 | k2 | k3 | k4 | k5=>k_asm);(case k6 | k7=>k_is);(case k8=>ktr_room);(case k9=>exact BindsTo.of_eq rfl);(case kB=>exact rfl);(case kD=>decide +kernel);(case c2 | c3 | c4=>exact rfl);k_whole;intro g' L' h' tk' cells' FG' F' N' Y' B' X' T' l1;(try k_lt l1);k_cells Y';(try simp only [List.cons_append,List.nil_append] at N');(try dsimp only);(try k_lift B');(try k_fold))
  (try (rename Fr _ _ _ _=>Fm9;replace Fm9 : Fr _ _ _ (fun y=>List.lookup y [(Str.ofString "octets",.bytes B tb)]) := Fm9))
  k_steps
  all_goals (first | (refine' hret _ _ _ _ ?e1 ?eo ?e2 ?e3;(case eo=>exact off1_ne o9.2);(case e3=>first | k_asm | (refine' cb_drop ?cbN ?cbS;(case cbN=>assumption);(case cbS=>intro p9 hp9;rcases List.mem_cons.mp hp9 with rfl | hp9;exact .head _;first | exact List.mem_cons_of_mem _ hp9 | exact List.mem_cons_of_mem _ (List.mem_cons_of_mem _ hp9) | exact List.mem_cons_of_mem _ (List.mem_cons_of_mem _ (List.mem_cons_of_mem _ hp9)))));(case e2=>k_asm);(case e1=>exact ints_of_get hl9 hy9)))
end
section
open PyProof.Rows.LCg PySem.Calls
theorem c_left {w : World} {mean : ExcName → Option Value} {mg mb : Str → Option Value} {news : List (Addr × Obj)} (B : Array UInt8) (tb : Tok) (ks : List Int) :
    Cb w mean mg mb 389 10 news (KBw.bInts B = ks ∧ ks.length ≤ 100) [.bytes B tb] (fun t=>.str (leftF ks) t) := by
  dsimp only [Cb]
  k_fill
  intros
  rename_i hpre _ _ hret
  k_with_none
  have hB := hpre.1
  have hk := hpre.2
  clear hpre
  have q1 := fig_len (left_in hB) (left_len ks)
  have q2 : (Str.ofString ".byte ").length = 6 := rfl
  k_with "comp" => ((with_reducible show wpAny _ _ (PySem.eval (PySem.Expr.ListComp _ [⟨_,_,[],_⟩] _ _) _) _ _ _);k_dflt (refine' comp_bytes (ks := leftL ks) (R := fun i y=>∃ t,y = Value.str (Str.ofString (toString ((leftL ks).getD i 0))) t) ?k1 ?k2 ?k3 ?k4 ?k5 ?k6 ?_;(case k1=>k_asm);(case k2=>with_unfolding_all rfl);(case k3=>decide);(case k4=>rfl);(case k5=>decide);(case k6=>rfl)))
  k_with "SrcByt" => (k_dflt (refine' SrcByt.mk' _ _ _ rfl rfl ?k1 ?k2 ?k3 ?k4 ?kel ?kq;(case k1=>k_asm);(case k2=>k_asm);(case k3=>exact left_cut (by assumption));(case k4=>exact Nat.le_trans (left_len _) (by decide));(case' kel=>(intro g9 i9 hi9 v9 I9 oI9 C9 oC9 D9 oD9 m9 h9 tk9 E9 hv9 hC9 hx9 F9 N9 off9 ne9;obtain ⟨t9,e9,f9,f8⟩ := hv9;subst e9;(try simp only [PyProof.Rows.LCg.Off3,and_true] at off9);(try dsimp only)));(case' kq=>(intro ys9 D9 h9 tk9 hl9 hy9 F9 N9 o9;(try simp only [PyProof.Rows.LCg.Off1,and_true] at o9);(try dsimp only)))))
  k_with "Plain" => (k_dflt (refine' plain_intro ?k1 ?k2 ?k3 ?kr;(case k1=>k_asm);(case k2=>k_asm);(case k3=>kcj_all);(case kr=>k_extra "elt")))
  k_with "free" => ((with_reducible show wpAny _ _ (PySem.eval (PySem.Expr.Name _ _) (compEnvC _ _ _ _)) _ _ _);k_dflt (refine' ld_freeC ?k1 ?k2 ?k3 ?k4 ?_ ?k5 ?k6;(case k5=>rfl);(case k6=>rfl);(case k1=>k_asm);(case k2=>rfl);(case k3=>k_mem);(case k4=>k_asm);k_whole))
  k_with "call builtin:str.join cons nil" => (k_dflt (refine' join_fig ?k1 ?k2 ?k3 ?k4 ?k5 ?k6 ?_;(case k1=>k_asm);(case k2=>k_mem);(case k3=>exact left_in hB);(case k4=>assumption);(case k5=>exact left_len _);(case k6=>assumption));intro t9 k9)
  k_with "add" => (k_dflt (refine' add_strC ?k1 ?_;(case k1=>((try simp only [PySem.Str.length_append]);omega)));intro t9 k9)
  k_with "elt" => exact ⟨_,rfl⟩
  refine wpAny_call ?_
  k_dflt cell_enter
  (try (rename Fr _ _ _ _=>Fm9;replace Fm9 : Fr _ _ _ (fun y=>List.lookup y [(Str.ofString "octets",.bytes B tb)]) := Fm9))
  k_steps
  all_goals (first | (refine' cb_retS hret ?e1 ?e2 ?e3;(case e2=>k_asm);(case e3=>first | k_asm | (refine' cb_drop ?cbN ?cbS;(case cbN=>assumption);(case cbS=>kcj_all)));(case e1=>first | exact left_e1 (by assumption) | exact left_e2 (by assumption))))
end
section
open PyProof.Rows.LCg PySem.Calls
theorem c_hexed {w : World} {mean : ExcName → Option Value} {mg mb : Str → Option Value} {news : List (Addr × Obj)} (v : Int) (tv u : Tok) :
    Cb w mean mg mb 339 1 news (0 ≤ v ∧ v < 2 ^ 32) [.int v tv,.int 8 u] (fun t=>.str (hexF v) t) := by
  dsimp only [Cb]
  k_fill
  intros
  rename_i hpre _ _ hret
  k_with_none
  k_with "eval Name m" => ((with_reducible show wpAny _ _ (PySem.eval (PySem.Expr.Name _ _) (compEnvC _ _ _ _)) _ _ _);k_dflt (refine' ld_freeC ?k1 ?k2 ?k3 ?k4 ?_ ?k5 ?k6;(case k5=>rfl);(case k6=>rfl);(case k1=>k_asm);(case k2=>rfl);(case k3=>k_mem);(case k4=>k_asm);k_whole))
  k_with "eval ListComp m" => (k_extra "comp")
  k_with "SrcRange" => (k_dflt (refine' SrcRange.mk' _ _ _ _ _ _ _ _ _ rfl rfl ?k1 ?k2 ?k3 ?k4 ?k5 ?k6 ?kel ?kq;(case k1=>k_asm);(case k2=>k_asm);(case k3=>assumption);(case k4=>first | decide | rfl);(case k5=>first | rfl | decide);(case k6=>first | size_fits | exact Nat.le_of_ble_eq_true rfl);(case' kel=>(intro g9 i9 hi9 v9 I9 oI9 C9 oC9 D9 oD9 m9 h9 tk9 E9 hv9 hC9 hx9 F9 N9 off9 ne9;obtain ⟨t9,e9⟩ := hv9;subst e9;(try simp only [Nat.succ_eq_add_one,Nat.zero_add,Nat.add_sub_cancel,Nat.div_one] at hi9);(try simp only [PyProof.Rows.LCg.Off3,and_true] at off9);(try dsimp only)));(case' kq=>(intro ys9 D9 h9 tk9 hl9 hy9 F9 N9 o9;(try simp only [PyProof.Rows.LCg.Off1,and_true] at o9);(try dsimp only)))))
  k_with "Plain" => (k_dflt (refine' plain_intro ?k1 ?k2 ?k3 ?kr;(case k1=>k_asm);(case k2=>k_asm);(case k3=>kcj_all);(case kr=>k_extra "elt")))
  k_with "call builtin:str.join m" => (k_dflt (refine' join_hex ?k1 ?k2 ?k3 ?k4 ?k5 ?_;(case k1=>k_asm);(case k2=>k_mem);(case k3=>assumption);(case k4=>decide);(case k5=>assumption));intro t9 k9)
  k_with "binaryOp Pow int int m" => ((with_reducible refine pow_int_small ?kb1 ?kb2 ?kb3 ?_);(case kb1=>omega);(case kb2=>omega);(case kb3=>decide))
  k_with "binaryOp FloorDiv int int m" => (k_dflt (refine' floordiv_int ?kb1 ?_ ?kb2;(case kb1=>exact Int.ne_of_gt (Int.pow_pos (by decide)));(case kb2=>exact Or.inl (PyProof.noPylong_small (pow16_small _ (by omega))))))
  k_with "subscriptTail Name BinOp str int m" => ((with_reducible show wpAny _ _ (subscriptTail _ _ (Value.str _ _) (Value.int (Builtin.bitAnd _ 15) _)) _ _ _);k_dflt (refine' item_and15 ?k1 ?_;(case k1=>exact rfl)))
  k_with "subscriptTail Constant BinOp str int m" => ((with_reducible show wpAny _ _ (subscriptTail _ _ (Value.str _ _) (Value.int (Int.fmod _ _) _)) _ _ _);k_dflt (refine item_str_fmod (by decide) (by decide) (by decide) ?_;intro l9))
  k_with "binaryOp RShift int int m" => ((with_reducible refine rshift_int ?kb1 ?_);(case kb1=>omega))
  k_with "comp" => (k_dflt (refine' comp_range (R := fun i y=>∃ t,y = Value.str (hexd (v / 16 ^ (7 - i) % 16)) t) ?k1 ?k2 ?k3 ?k4 ?k5 ?k6 ?_;(case k1=>k_asm);(case k2=>with_unfolding_all rfl);(case k3=>decide);(case k4=>rfl);(case k5=>decide);(case k6=>rfl)))
  k_with "elt" => first | (apply Exists.intro;rw [hex_at1 _ _ (by omega)];rfl) | (apply Exists.intro;rw [hex_at2' _ _ (by omega)];rfl)
  refine wpAny_call ?_
  k_dflt (refine' code_defC ?k1 ?k2 ?k3 ?k4 ?k5 ?kA ?kF ?kK ?k6 ?k7 ?k8 ?k9 ?kB ?kD ?_ ?c2 ?c3 ?c4;(case kA | kF=>exact rfl);(case kK=>assumption);(case k1 | k2 | k3 | k4 | k5=>k_asm);(case k6 | k7=>k_is);(case k8=>ktr_room);(case k9=>exact BindsTo.of_eq rfl);(case kB=>exact rfl);(case kD=>decide +kernel);(case c2 | c3 | c4=>exact rfl);k_whole;intro g' L' h' tk' cells' FG' F' N' Y' B' X' T' l1;(try k_lt l1);k_cells Y';(try simp only [List.cons_append,List.nil_append] at N');(try dsimp only);(try k_lift B');(try k_fold))
  (try (rename Fr _ _ _ _=>Fm9;replace Fm9 : Fr _ _ _ (fun y=>List.lookup y [(Str.ofString "digits",.int 8 u),(Str.ofString "value",.int v tv)]) := Fm9))
  k_steps
  all_goals (first | (refine' cb_retS hret ?e1 ?e2 ?e3;(case e2=>k_asm);(case e3=>first | k_asm | (refine' cb_drop ?cbN ?cbS;(case cbN=>assumption);(case cbS=>kcj_all)));(case e1=>exact rfl)))
end
section
open PySem.Calls
section
variable {g : G}
theorem Cm.gt {a b : Int} : Cm g .Gt (.i a) (.i b) (decide (b < a)) := .mk fun _ _ _ _ _ _ _ _ _ _ ⟨_,e1⟩ ⟨_,e2⟩ hQ=>e1 ▸ e2 ▸ PyProof.Rows.gt_int hQ
theorem Cm.ge {a b : Int} : Cm g .GtE (.i a) (.i b) (decide (b ≤ a)) := .mk fun _ _ _ _ _ _ _ _ _ _ ⟨_,e1⟩ ⟨_,e2⟩ hQ=>e1 ▸ e2 ▸ PyProof.Rows.ge_int hQ
theorem Ev.tupI {es : List Expr} {i : Expr} {kk : Nat} {p pos : Pos} {l : List Int} {k : Int} (h1 : We g es l) (h2 : ∀ N,Ev { g with N := N } i (.i k)) (hl : l.length ≤ 40) (hk : 0 ≤ k ∧ k < (l.length : Int)) (hs : ∀ P k u,subscripted i false (.ref P) (.int k u) = operate [.ref P,.int k u] (getItem (.ref P) (.int k u))) : Ev g (.Subscript (.Tuple es kk p) i pos) (.i (l.getD k.toNat 0)) := .mk fun c m s Q E ok hlo F N hQ =>
  Subscript_ (Tuple_ (h1.run c p m s _ E ok hlo F N fun vs h' tk' hv F' N'=>kup_newTuple (s := { s with heap := h',toks := tk' }) F' N' (fun D h'' F'' N'' _=>(h2 ((D,{ cls := .type "tuple",data := .seq (List.toArray vs) }) :: g.N)).run c m { s with heap := h'',toks := tk' } _ E ⟨ok.B,ok.X,ok.T,ok.k,ok.d,ok.u⟩ hlo F'' N'' fun _ h3 tk3 ⟨u,e2⟩ F3 N3=>e2 ▸ by
    have hlen : vs.length = l.length := IntsAre.length hv
    have hj : k.toNat < vs.length := by omega
    obtain ⟨n,t,hx,hy⟩ := hv.at k.toNat vs[k.toNat] (List.getElem?_eq_getElem hj)
    have e : l.getD k.toNat 0 = n := by rw [List.getD_eq_getElem?_getD,hy];rfl
    refine item_tuple_go (j := k.toNat) (x := .int n t) (News.isTup N3 (.head _)) (by omega) (by omega) ?_ ?_ (hQ _ h3 tk3 ⟨t,by rw [e]⟩ F3 fun q hq=>N3 q (.tail _ hq)) (hs _ _ _)
    · unfold seqIndex?
      rw [List.size_toArray,if_neg (Int.not_lt.mpr hk.1)]
      exact if_pos (by rw [Bool.and_eq_true,decide_eq_true_eq,decide_eq_true_eq];exact ⟨hk.1,by rw [hlen];exact hk.2⟩)
    · rw [List.getElem?_toArray,List.getElem?_eq_getElem hj,hx]) (by rw [IntsAre.length hv,sizeLine_eq];omega)))
structure Exx (g : G) (body : List Stmt) (P : Int → Prop) : Prop where
  is : ∃ X,Ex g body (.i X) ∧ P X
theorem Exx.ret {e : Expr} {pos : Pos} {rest : List Stmt} {P : Int → Prop} {X : Int} (h : Ev g e (.i X)) (hp : P X) : Exx g (.Return (some e) pos :: rest) P := ⟨X,Ex.ret h,hp⟩
theorem Exx.if_ {t : Expr} {body rest : List Stmt} {pos : Pos} {b : Bool} {P : Int → Prop} (h : Te g t b) (h1 : b = true → Exx g body P) (h2 : Exx g rest P) : Exx g (.If t body [] pos :: rest) P := by
  cases b with
  | true=>obtain ⟨X,a,b⟩ := (h1 rfl).is;exact ⟨X,Ex.ifT h rfl a,b⟩
  | false=>obtain ⟨X,a,b⟩ := h2.is;exact ⟨X,Ex.ifF h rfl a,b⟩
theorem Exx.asg {x : Str} {p pos : Pos} {e : Expr} {rest : List Stmt} {v : PV} {P : Int → Prop} (h : Ev g e v) (h2 : Exx (g.set x v) rest P) (hk : (g.f.cs.names.lookup x == some .local) = true) (hs : ∀ env : Env,env.kindOf = (fun y=>g.f.cs.names.lookup y) → swapsWith e (some (.Name x p)) pos.line env = pure false) : Exx g (.Assign [.Name x p] e pos :: rest) P := let ⟨X,a,b⟩ := h2.is;⟨X,Ex.asg h a hk hs,b⟩
theorem Locs.nil' {m : Str → Option Value} : Locs [] m := fun _ _ h=>by cases h
theorem Locs.cons' {ρ : Lo} {m : Str → Option Value} {x : Str} {v : PV} {y : Value} (h : m x = some y) (hv : v.Is y) (r : Locs ρ m) : Locs ((x,v) :: ρ) m := fun z w hz=>by
  rw [List.lookup_cons] at hz
  by_cases e : z = x
  · subst e;rw [beq_self_eq_true] at hz;cases hz;exact ⟨y,h,hv⟩
  · have : (z == x) = false := by simpa using e
    rw [this] at hz;exact r z w hz
theorem Locs.int {ρ : Lo} {m : Str → Option Value} {x : Str} {n : Int} {t : Tok} (h : m x = some (.int n t)) (r : Locs ρ m) : Locs ((x,.i n) :: ρ) m := r.cons' h ⟨t,rfl⟩
theorem Locs.str {ρ : Lo} {m : Str → Option Value} {x : Str} {n : Str} {t : Tok} (h : m x = some (.str n t)) (r : Locs ρ m) : Locs ((x,.s n) :: ρ) m := r.cons' h ⟨t,rfl⟩
theorem Locs.val {ρ : Lo} {m : Str → Option Value} {x : Str} {v : Value} (h : m x = some v) (r : Locs ρ m) : Locs ((x,.v v) :: ρ) m := r.cons' h rfl
end
section
variable {w : World} {mean : ExcName → Option Value} {mg mb : Str → Option Value} {D : Nat} {news : List (Addr × Obj)} {ρ : Lo} {dp un : Nat} {gd : Option (List Code)} {cn : Str} {cs : Scope} {a : Addr} {ccd : Value} {cl : List (Str × Addr)} {outer : List Env} {A₀ : Around} {base h₀ : Heap} {L : Addr} {m : Str → Option Value} {s : Shared}
theorem ev_walkI {Q E : Value → Shared → Prop} {e : Expr} {v : Int} (h : Ev ⟨w,mean,mg,mb,⟨cn,cs,a,ccd⟩,D,news,ρ⟩ e (.i v)) (hl : Locs ρ m) (B : Below A₀ base outer h₀) (F : Fr h₀ L s.heap m) (X : (hd.heap_39 w.params).In h₀) (N : News h₀ L s.heap news) (T : Top hd.view_39 looseL mean mg mb h₀) (hk : cs.kind = .function)
    (hd : dp + D < recursionLimit) (hu : un + 8 * D < cLine) (hQ : ∀ t h' tk',Fr h₀ L h' m → News h₀ L h' news → Q (.int v t) { s with heap := h',toks := tk' }) : wpAny (model PRG w) (ktrTop dp un gd cn cs L a ccd cl outer) (eval e (envX cn cs L a ccd cl)) Q E s :=
  h.run ⟨dp,un,gd,cl,outer,A₀,base,h₀,L⟩ m s Q E ⟨B,X,T,hk,hd,hu⟩ hl F N fun _ h' tk' ⟨t,e⟩ F' N'=>e ▸ hQ t h' tk' F' N'
theorem ev_walkS {Q E : Value → Shared → Prop} {e : Expr} {v : Str} (h : Ev ⟨w,mean,mg,mb,⟨cn,cs,a,ccd⟩,D,news,ρ⟩ e (.s v)) (hl : Locs ρ m) (B : Below A₀ base outer h₀) (F : Fr h₀ L s.heap m) (X : (hd.heap_39 w.params).In h₀) (N : News h₀ L s.heap news) (T : Top hd.view_39 looseL mean mg mb h₀) (hk : cs.kind = .function)
    (hd : dp + D < recursionLimit) (hu : un + 8 * D < cLine) (hQ : ∀ t h' tk',Fr h₀ L h' m → News h₀ L h' news → Q (.str v t) { s with heap := h',toks := tk' }) : wpAny (model PRG w) (ktrTop dp un gd cn cs L a ccd cl outer) (eval e (envX cn cs L a ccd cl)) Q E s :=
  h.run ⟨dp,un,gd,cl,outer,A₀,base,h₀,L⟩ m s Q E ⟨B,X,T,hk,hd,hu⟩ hl F N fun _ h' tk' ⟨t,e⟩ F' N'=>e ▸ hQ t h' tk' F' N'
theorem te_walk {Q : Bool → Shared → Prop} {E : Value → Shared → Prop} {e : Expr} {b : Bool} (h : Te ⟨w,mean,mg,mb,⟨cn,cs,a,ccd⟩,D,news,ρ⟩ e b) (hl : Locs ρ m) (B : Below A₀ base outer h₀) (F : Fr h₀ L s.heap m) (X : (hd.heap_39 w.params).In h₀) (N : News h₀ L s.heap news) (T : Top hd.view_39 looseL mean mg mb h₀) (hk : cs.kind = .function)
    (hd : dp + D < recursionLimit) (hu : un + 8 * D < cLine) (hQ : ∀ h' tk',Fr h₀ L h' m → News h₀ L h' news → Q b { s with heap := h',toks := tk' }) : wpAny (model PRG w) (ktrTop dp un gd cn cs L a ccd cl outer) (isTrue e (envX cn cs L a ccd cl) (eval e (envX cn cs L a ccd cl))) Q E s :=
  h.run ⟨dp,un,gd,cl,outer,A₀,base,h₀,L⟩ m s Q E _ ⟨B,X,T,hk,hd,hu⟩ hl F N rfl hQ
theorem ex_walkP {Q : Flow → Shared → Prop} {E : Value → Shared → Prop} {body : List Stmt} (P : Int → Prop) (h : Exx ⟨w,mean,mg,mb,⟨cn,cs,a,ccd⟩,D,news,ρ⟩ body P) (hl : Locs ρ m) (B : Below A₀ base outer h₀) (F : Fr h₀ L s.heap m) (X : (hd.heap_39 w.params).In h₀) (N : News h₀ L s.heap news) (T : Top hd.view_39 looseL mean mg mb h₀) (hk : cs.kind = .function)
    (hd : dp + D < recursionLimit) (hu : un + 8 * D < cLine) (hQ : ∀ X t h' tk' m',P X → Fr h₀ L h' m' → News h₀ L h' news → Q (.ret (.int X t)) { s with heap := h',toks := tk' }) : wpAny (model PRG w) (ktrTop dp un gd cn cs L a ccd cl outer) (execs body (envX cn cs L a ccd cl)) Q E s :=
  let ⟨Y,h1,h2⟩ := h.is
  h1.run ⟨dp,un,gd,cl,outer,A₀,base,h₀,L⟩ m s Q E ⟨B,X,T,hk,hd,hu⟩ hl F N fun x h' tk' m' ⟨t,e⟩ F' N'=>e ▸ hQ Y t h' tk' m' h2 F' N'
end
end
section
section
variable {prog : Program} {w : World} {A : Around} {E : Value → Shared → Prop} {s : Shared} {env : Env} {h₀ : Heap}
noncomputable def StepE2 (h₀ : Heap) (L : Addr) (s : Shared) (I : Addr) (oI : Obj) (K : Addr) (oK : Obj) (J : (Str → Option Value) → List (Addr × Obj) → Prop) (Q : Flow → Shared → Prop) (f : Flow) (s' : Shared) : Prop :=
  match f with
  | .ret v=>Q (.ret v) s'
  | .brk=>Q .next s'
  | _=>∃ h tk m n,s' = { s with heap := h,toks := tk } ∧ Fr h₀ L h m ∧ News h₀ L h ((I,oI) :: (K,oK) :: n) ∧ (∀ p ∈ n,p.1 ≠ I ∧ p.1 ≠ K) ∧ J m n
theorem StepE2.mk' {h₀ : Heap} {L : Addr} {s : Shared} {I : Addr} {oI : Obj} {K : Addr} {oK : Obj} {J : (Str → Option Value) → List (Addr × Obj) → Prop} {Q : Flow → Shared → Prop} {s' : Shared} (h : Heap) (tk : Nat) (m : Str → Option Value) (n : List (Addr × Obj)) (e : s' = { s with heap := h,toks := tk }) (F : Fr h₀ L h m) (N : News h₀ L h ((I,oI) :: (K,oK) :: n)) (o : ∀ p ∈ n,p.1 ≠ I ∧ p.1 ≠ K) (j : J m n) : StepE2 h₀ L s I oI K oK J Q .next s' := ⟨h,tk,m,n,e,F,N,o,j⟩
inductive EnumLst (prog : Program) (w : World) (A : Around) (h₀ : Heap) (env : Env) (target : Expr) (body : List Stmt) (Q : Flow → Shared → Prop) (E : Value → Shared → Prop) (l : Addr) (s : Shared) : Prop
  | mk' (vs k m₀ news : _) (J : Nat → (Str → Option Value) → List (Addr × Obj) → Prop) (h0 : A.handled = none) (h1 : Fr h₀ env.locals s.heap m₀) (h2 : News h₀ env.locals s.heap news) (h3 : J 0 m₀ news) (h4 : (∀ i m n,J i m n → (l,listOf (List.toArray vs) k) ∈ n)) (h5 : (∀ i v t T m₁ n₁ h₁ tk₁ I oI K oK,vs[i]? = some v → J i m₁ n₁ → h₁.IsTuple T #[.int (i : Int) t,v] → Fr h₀ env.locals h₁ m₁ → News h₀ env.locals h₁ ((I,oI) :: (K,oK) :: n₁) → (∀ p ∈ n₁,p.1 ≠ I ∧ p.1 ≠ K) → wpAny (model prog w) A (assign target env (.ref T)) (fun _ s₂=>wpAny (model prog w) A (execs body env) (StepE2 h₀ env.locals { s with heap := h₁,toks := tk₁ } I oI K oK (J (i + 1)) Q) E s₂) E { s with heap := h₁,toks := tk₁ })) (h6 : (∀ h' tk m' n',Fr h₀ env.locals h' m' → News h₀ env.locals h' n' → J vs.length m' n' → Q .next { s with heap := h',toks := tk })) : EnumLst prog w A h₀ env target body Q E l s
theorem enum_made {elts : List Expr} {kk : Nat} {pos : Pos} {body : List Stmt} {Q : Flow → Shared → Prop} {l : Addr} (H : EnumLst prog w A h₀ env (.Tuple elts kk pos) body Q E l s) :
    wpAny (model prog w) A (call (.type "enumerate") [.ref l]) (fun xv s₁=>wpAny (model prog w) A (pyIter xv) (fun it s₂=>TurnsAt prog w A h₀ env (.Tuple elts kk pos) body Q E it s₂) E s₁) E s := by
  obtain ⟨vs,k,m₀,news,J,hh,F,N,h0,hm,step,fin⟩ := H
  have hax := N _ (hm 0 m₀ news h0)
  have hl : s.heap.IsList l vs.toArray := ⟨_,hax.1,rfl,_,rfl⟩
  have hlt : l < s.heap.objs.size := Heap.lt_size hax.1
  have hLs : env.locals < s.heap.objs.size := F.ns.lt
  refine call_enumerate_list hl fun h' hE hI hsz hk=>?_
  refine wpAny_pyIter_enum hE ?_
  have hI0 : h₀.get? s.heap.objs.size = none := ktu_new F (Nat.le_refl _)
  have hI1 : h₀.get? (s.heap.objs.size + 1) = none := ktu_new F (Nat.le_add_right _ _)
  refine ⟨s.heap.objs.size + 1,_,_,_,_,_,_,m₀,news,J,rfl,KTurns.ofWalksU (WalksT.enumerate hh (s.heap.objs.size + 1) s.heap.objs.size l (Nat.succ_ne_self _) (ktu_ne 1 hlt) (Nat.ne_of_lt hlt) vs.toArray).toU,?_,?_,?_,⟨⟨.none,hE⟩,hI,hl.at fun o e=>hk l o e⟩,F.keeps hk,N.grown hk,h0,?_,?_⟩
  · intro hI'
    have hb' : env.locals = s.heap.objs.size + 1 ∨ env.locals = s.heap.objs.size ∨ env.locals = l := by simpa using hI'
    rcases hb' with e | e | e
    · exact ktu_ne 1 hLs e
    · exact Nat.ne_of_lt hLs e
    · exact hax.2.1 e.symm
  · intro b hb
    have hb' : b = s.heap.objs.size + 1 ∨ b = s.heap.objs.size := by simpa using hb
    rcases hb' with rfl | rfl
    · exact hI1
    · exact hI0
  · intro p hp hI'
    have hb' : p.1 = s.heap.objs.size + 1 ∨ p.1 = s.heap.objs.size := by simpa using hI'
    have hlp := Heap.lt_size (N p hp).1
    rcases hb' with e | e
    · exact ktu_ne 1 hlp e
    · exact Nat.ne_of_lt hlp e
  · rintro i v m₁ news₁ h₁ tk₁ own hi ⟨T,vals,rfl,⟨t,x,hx,rfl⟩,hT⟩ hJ hnw hsub hown hall ⟨⟨old,he⟩,⟨oi,hoi,hic,_⟩,_⟩ F₁ N₁
    have he' : ∃ oe : Obj,h₁.get? (s.heap.objs.size + 1) = some oe := ⟨_,he⟩
    obtain ⟨oe,hoe⟩ := he'
    have hEin : (s.heap.objs.size + 1,oe) ∈ own := hall _ (by simp) hI1 oe hoe
    have hIin : (s.heap.objs.size,oi) ∈ own := hall _ (by simp) hI0 oi hoi
    have hx' : vs[i]? = some x := by simpa using hx
    have N₂ : News h₀ env.locals h₁ ((s.heap.objs.size + 1,oe) :: (s.heap.objs.size,oi) :: news₁) := fun p hp=>by
      rcases List.mem_cons.mp hp with rfl | hp
      · exact N₁ _ (List.mem_append_left _ hEin)
      · rcases List.mem_cons.mp hp with rfl | hp
        · exact N₁ _ (List.mem_append_left _ hIin)
        · exact N₁ _ (List.mem_append_right _ hp)
    have hnI : ∀ p ∈ news₁,p.1 ≠ s.heap.objs.size + 1 ∧ p.1 ≠ s.heap.objs.size := fun p hp=>⟨fun e=>hnw p hp (by simp [e]),fun e=>hnw p hp (by simp [e])⟩
    refine wpAny_mono (step i x t T m₁ news₁ h₁ tk₁ _ oe _ oi hx' hJ hT F₁ N₂ hnI) (fun _ s₂ h₂=>wpAny_mono h₂ (fun f s₃ h₃=>?_) fun _ _ e=>e) fun _ _ e=>e
    have up : (∃ h tk m n,s₃ = { s with heap := h,toks := tk } ∧ Fr h₀ env.locals h m ∧ News h₀ env.locals h ((s.heap.objs.size + 1,oe) :: (s.heap.objs.size,oi) :: n) ∧ (∀ p ∈ n,p.1 ≠ s.heap.objs.size + 1 ∧ p.1 ≠ s.heap.objs.size) ∧ J (i + 1) m n) →
        ∃ h tk m n,s₃ = { s with heap := h,toks := tk } ∧ Fr h₀ env.locals h m ∧ News h₀ env.locals h (own ++ n) ∧ (∀ p ∈ n,p.1 ∉ [s.heap.objs.size + 1,s.heap.objs.size]) ∧ J (i + 1) m n := by
      rintro ⟨h,tk,m,n,rfl,F₃,N₃,ha,hj⟩
      refine ⟨h,tk,m,n,rfl,F₃,fun p hp=>?_,fun p hp hb=>?_,hj⟩
      · rcases List.mem_append.mp hp with hp | hp
        · have h1 := hown p hp
          have h2 : p.1 = s.heap.objs.size + 1 ∨ p.1 = s.heap.objs.size ∨ p.1 = l := by simpa using hsub p hp
          rcases h2 with e | e | e
          · have e2 : p = (s.heap.objs.size + 1,oe) := by
              rw [e,hoe] at h1
              exact Prod.ext e (Option.some.inj h1).symm
            rw [e2];exact N₃ _ (List.mem_cons_self ..)
          · have e2 : p = (s.heap.objs.size,oi) := by
              rw [e,hoi] at h1
              exact Prod.ext e (Option.some.inj h1).symm
            rw [e2];exact N₃ _ (List.mem_cons_of_mem _ (List.mem_cons_self ..))
          · have h3 := (N₁ _ (List.mem_append_right _ (hm i m₁ news₁ hJ))).1
            have e2 : p = (l,listOf vs.toArray k) := by
              rw [e,h3] at h1
              exact Prod.ext e (Option.some.inj h1).symm
            rw [e2];exact N₃ _ (List.mem_cons_of_mem _ (List.mem_cons_of_mem _ (hm (i + 1) m n hj)))
        · exact N₃ _ (List.mem_cons_of_mem _ (List.mem_cons_of_mem _ hp))
      · have hb' : p.1 = s.heap.objs.size + 1 ∨ p.1 = s.heap.objs.size := by simpa using hb
        rcases hb' with e | e
        · exact (ha p hp).1 e
        · exact (ha p hp).2 e
    cases f with
    | ret v=>exact LoopStepV.ret h₃
    | brk=>exact LoopStepV.brk h₃
    | cont=>exact LoopStepV.cont ⟨rfl,up h₃⟩
    | next=>exact LoopStepV.next ⟨rfl,up h₃⟩
  · intro h' tk m' news' F' N' _ hJ
    exact fin h' tk m' news' F' N' (by simpa using hJ)
end
end
section
noncomputable def ltgtF (v : Int) (y : Str) (b : Int) : Int := if oneF v = true ∧ (v % 128 = 99 ∨ v % 128 = 111) then (b + numF y).fmod (2 ^ Int.toNat 32) else -1
theorem ltE1 {v b : Int} {y : Str} (h : oneF v = false) : -1 = ltgtF v y b := by
  unfold ltgtF;rw [if_neg];intro q;rw [q.1] at h;cases h
theorem ltE2 {v b : Int} {y : Str} (h : ([99,111].any fun x=>x == v.fmod 128) = false) : -1 = ltgtF v y b := by
  unfold ltgtF;rw [if_neg];intro q
  rw [Int.fmod_eq_emod_of_nonneg _ (by decide)] at h
  rcases q.2 with q | q <;> rw [q] at h <;> revert h <;> decide
theorem ltE3 {v b : Int} {y : Str} (h : oneF v = true) (h2 : ([99,111].any fun x=>x == v.fmod 128) = true) : (b + numF y).fmod (2 ^ Int.toNat 32) = ltgtF v y b := by
  unfold ltgtF
  rw [if_pos]
  rw [Int.fmod_eq_emod_of_nonneg _ (by decide)] at h2
  simp only [List.any_cons,List.any_nil,Bool.or_false,Bool.or_eq_true,beq_iff_eq] at h2
  exact ⟨h,by omega⟩
theorem last_strs {vs : List Value} {ps : List Str} {y : Str} (h : StrsAre vs ps) (e : ps.getLast? = some y) : ∃ t,vs.getLast? = some (.str y t) := by
  rw [List.getLast?_eq_getElem?] at e ⊢
  rw [h.length]
  exact StrsAre.at h e
end
section
open PySem.Builtin PySem.Builtin.Str PySem.StrLaws
theorem str_of {x : Str} {l : List Nat} (h : x.cps.toList = l) : x = ⟨l.toArray⟩ := StrLaws.mk_of_toList h
theorem str_ext {x y : Str} (h : x.cps.toList = y.cps.toList) : x = y := (str_of h).trans (str_of rfl).symm
theorem cps_app (x y : Str) : (x ++ y).cps.toList = x.cps.toList ++ y.cps.toList := by rw [PySem.Str.cps_append,Array.toList_append]
theorem len_cps (x : Str) : x.length = x.cps.toList.length := by simp [Str.length]
theorem at_iff (x y : Str) (i : Nat) : At x y x.length i ↔ i + y.length ≤ x.length ∧ (x.cps.toList.drop i).take y.length = y.cps.toList := by
  unfold At
  rw [subAt_eq,beq_iff_eq]
theorem at_head {x y : Str} {c : Nat} {r : List Nat} {i : Nat} (hy : y.cps.toList = c :: r) (h : At x y x.length i) : x.cps.toList[i]? = some c := by
  obtain ⟨_,h⟩ := (at_iff x y i).mp h
  have h2 : ((x.cps.toList.drop i).take y.length)[0]? = some c := by rw [h,hy];rfl
  rw [List.getElem?_take_of_lt (by rw [len_cps,hy];exact Nat.zero_lt_succ _),List.getElem?_drop] at h2
  simpa using h2
theorem sub_pre (a b : Str) : strSub (a ++ b) 0 a.length = a := by
  apply str_ext
  rw [strSub_toList,cps_app,List.drop_zero,Nat.sub_zero,len_cps,List.take_left]
theorem sub_post (a b : Str) : strSub (a ++ b) a.length (a ++ b).length = b := by
  apply str_ext
  rw [strSub_toList,cps_app,len_cps a,List.drop_left,len_cps,cps_app,List.length_append,Nat.add_sub_cancel_left,List.take_length]
theorem part_at {a y b : Str} {c : Nat} {r : List Nat} (hy : y.cps.toList = c :: r) (ha : c ∉ a.cps.toList) : Txt.partition (a ++ y ++ b) y = (a,y,b) := by
  have hat : At (a ++ y ++ b) y (a ++ y ++ b).length a.length := by
    rw [at_iff]
    refine ⟨by simp only [PySem.Str.length_append];omega,?_⟩
    rw [cps_app,cps_app,len_cps a,List.append_assoc,List.drop_left,len_cps y,List.take_left]
  unfold Txt.partition
  rcases occ_head (a ++ y ++ b) y 1 (by decide) with ⟨_,h⟩ | ⟨i,q,e,hi,hlt⟩
  · exact absurd hat (h _)
  · have e2 : i = a.length := by
      rcases Nat.lt_trichotomy i a.length with h | h | h
      · have h2 := at_head hy hi
        rw [cps_app,cps_app,List.append_assoc,List.getElem?_append_left (by rw [← len_cps];exact h)] at h2
        exact absurd (List.mem_of_getElem? h2) ha
      · exact h
      · exact absurd hat (hlt _ h)
    rw [e,e2]
    show (strSub (a ++ y ++ b) 0 a.length,y,strSub (a ++ y ++ b) (a.length + y.length) (a ++ y ++ b).length) = _
    rw [show a.length + y.length = (a ++ y).length from (PySem.Str.length_append a y).symm,sub_post,PySem.Str.append_assoc,sub_pre]
-- the run of the search
section
variable {x y : Str} {hi limit : Nat}
noncomputable def orun (x y : Str) (hi limit : Nat) (l : List Nat) (st : Array Nat × Nat) : Array Nat × Nat := (forIn (m := Id) l st (occBody x y hi limit)).run
theorem orun_cons (i : Nat) (l : List Nat) (st : Array Nat × Nat) : orun x y hi limit (i :: l) st = orun x y hi limit l (if ((st.fst.size < limit ∧ st.snd ≤ i) ∧ i + y.length ≤ hi) ∧ subAt x y i = true then (st.fst.push i,i + y.length) else st) := by
  unfold orun
  rw [List.forIn_cons]
  unfold occBody
  split <;> rfl
theorem orun_app : ∀ (l r : List Nat) (st : Array Nat × Nat),orun x y hi limit (l ++ r) st = orun x y hi limit r (orun x y hi limit l st)
  | [],_,_=>rfl
  | i :: l,r,st=>by rw [List.cons_append,orun_cons,orun_cons,orun_app l r]
theorem orun_skip : ∀ (l : List Nat) (st : Array Nat × Nat),(∀ i ∈ l,i < st.snd ∨ ¬ At x y hi i) → orun x y hi limit l st = st := by
  intro l
  induction l with
  | nil=>exact fun _ _=>rfl
  | cons i l ih =>
    intro st h
    rw [orun_cons,if_neg]
    · exact ih st fun j hj=>h j (.tail _ hj)
    · intro q
      rcases h i (.head _) with g | g
      · exact absurd q.1.1.2 (Nat.not_le.mpr g)
      · exact g ⟨q.1.2,q.2⟩
theorem orun_hit {i : Nat} {l : List Nat} {st : Array Nat × Nat} (h1 : st.fst.size < limit) (h2 : st.snd ≤ i) (h3 : At x y hi i) : orun x y hi limit (i :: l) st = orun x y hi limit l (st.fst.push i,i + y.length) := by
  rw [orun_cons,if_pos ⟨⟨⟨h1,h2⟩,h3.1⟩,h3.2⟩]
end
noncomputable def cutsOf (k : Nat) : Nat → List Str → List Nat
  | _,[]=>[]
  | _,[_]=>[]
  | a,p :: q :: r=>(a + p.length) :: cutsOf k (a + p.length + k) (q :: r)
theorem join_cons2 (y p q : Str) (r : List Str) : Str.join y (p :: q :: r) = p ++ y ++ Str.join y (q :: r) := rfl
theorem range_cut (a n m : Nat) : List.range' a (n + m) = List.range' a n ++ List.range' (a + n) m := by
  have := List.range'_append (s := a) (m := n) (n := m) (step := 1)
  rw [Nat.one_mul] at this
  exact this.symm
theorem orun_join {y : Str} {c : Nat} {d : Nat} (hy : y.cps.toList = [c,d]) (hcd : d ≠ c) (limit : Nat) : ∀ (ps : List Str) (pre : Str) (acc : Array Nat),ps ≠ [] → (∀ p ∈ ps,c ∉ p.cps.toList) → acc.size + ps.length ≤ limit →
    (orun (pre ++ Str.join y ps) y (pre ++ Str.join y ps).length limit (List.range' pre.length ((pre ++ Str.join y ps).length + 1 - pre.length)) (acc,pre.length)).1.toList = acc.toList ++ cutsOf 2 pre.length ps := by
  intro ps
  induction ps with
  | nil=>exact fun _ _ h _ _=>absurd rfl h
  | cons p q' ihq =>
   intro pre acc _ hp hl
   cases q' with
   | nil =>
    have hp := hp p (.head _)
    rw [orun_skip]
    · exact (List.append_nil _).symm
    · intro i hi
      refine .inr fun g=>?_
      have g := at_head hy g
      rw [show Str.join y [p] = p from rfl,cps_app] at g
      have hi := List.mem_range'.mp hi
      obtain ⟨j,_,e⟩ := hi
      rw [List.getElem?_append_right (by rw [← len_cps];omega)] at g
      exact hp (List.mem_of_getElem? g)
   | cons q r =>
    have h1 := hp p (.head _)
    have hyl : y.length = 2 := by rw [len_cps,hy];rfl
    have ih := ihq (pre ++ (p ++ y)) (acc.push (pre.length + p.length)) (by simp) (fun z hz=>hp z (.tail _ hz)) (by rw [Array.size_push];simp only [List.length_cons] at hl ⊢;omega)
    rw [join_cons2]
    rw [show pre ++ (p ++ y) ++ Str.join y (q :: r) = pre ++ (p ++ y ++ Str.join y (q :: r)) from PySem.Str.append_assoc _ _ _] at ih
    generalize hX : pre ++ (p ++ y ++ Str.join y (q :: r)) = X at ih ⊢
    have hXc : X.cps.toList = pre.cps.toList ++ (p.cps.toList ++ ([c,d] ++ (Str.join y (q :: r)).cps.toList)) := by rw [← hX];simp only [cps_app,hy,List.append_assoc]
    have hXl : X.length = pre.length + (p.length + (2 + (Str.join y (q :: r)).length)) := by rw [len_cps,hXc];simp only [List.length_append,len_cps,List.length_cons,List.length_nil]
    have e1 : X.length + 1 - pre.length = p.length + (1 + (1 + (X.length + 1 - (pre ++ (p ++ y)).length))) := by
      rw [PySem.Str.length_append,PySem.Str.length_append,hyl,hXl];omega
    have hpy : (pre ++ (p ++ y)).length = pre.length + p.length + 2 := by rw [PySem.Str.length_append,PySem.Str.length_append,hyl];omega
    have s1 : orun X y X.length limit (List.range' pre.length p.length) (acc,pre.length) = (acc,pre.length) := by
      refine orun_skip _ _ fun i hi=>.inr fun g=>?_
      have g := at_head hy g
      obtain ⟨j,hj,e⟩ := List.mem_range'.mp hi
      have hj2 : j < p.cps.toList.length := by rw [← len_cps];exact hj
      rw [hXc,List.getElem?_append_right (by rw [← len_cps];omega),List.getElem?_append_left (by rw [← len_cps];omega)] at g
      exact h1 (List.mem_of_getElem? g)
    have s2 : ∀ l,orun X y X.length limit ((pre.length + p.length) :: l) (acc,pre.length) = orun X y X.length limit l (acc.push (pre.length + p.length),pre.length + p.length + 2) := by
      intro l
      rw [orun_hit,hyl]
      · show acc.size < limit
        simp only [List.length_cons] at hl;omega
      · exact Nat.le_add_right _ _
      · rw [at_iff,hyl]
        refine ⟨by omega,?_⟩
        rw [hXc,len_cps pre,len_cps p,← List.append_assoc,← List.length_append,List.drop_left,hy]
        rfl
    have s3 : ∀ acc',orun X y X.length limit [pre.length + p.length + 1] (acc',pre.length + p.length + 2) = (acc',pre.length + p.length + 2) := fun acc' =>
      orun_skip _ _ fun i hi=>.inl (by rw [List.mem_singleton.mp hi];exact Nat.lt_succ_self _)
    rw [e1,range_cut,orun_app,s1,range_cut (pre.length + p.length) 1,show List.range' (pre.length + p.length) 1 = [pre.length + p.length] from rfl,List.singleton_append,s2,range_cut (pre.length + p.length + 1) 1,
      show List.range' (pre.length + p.length + 1) 1 = [pre.length + p.length + 1] from rfl,orun_app,s3,← hpy,ih,Array.toList_push,List.append_assoc,hpy]
    rfl
theorem parts_join {y : Str} : ∀ (ps : List Str) (pre : Str),ps ≠ [] → partsFrom (pre ++ Str.join y ps) y.length pre.length (cutsOf y.length pre.length ps) = ps := by
  intro ps
  induction ps with
  | nil=>exact fun _ h=>absurd rfl h
  | cons p q' ihq =>
   intro pre _
   cases q' with
   | nil =>
    show [strSub (pre ++ p) pre.length (pre ++ p).length] = [p]
    rw [sub_post]
   | cons q r =>
    have ih := ihq (pre ++ (p ++ y)) (by simp)
    show strSub (pre ++ Str.join y (p :: q :: r)) pre.length (pre.length + p.length) :: partsFrom (pre ++ Str.join y (p :: q :: r)) y.length (pre.length + p.length + y.length) (cutsOf y.length (pre.length + p.length + y.length) (q :: r)) = _
    rw [join_cons2,show pre ++ (p ++ y ++ Str.join y (q :: r)) = pre ++ (p ++ y) ++ Str.join y (q :: r) from (PySem.Str.append_assoc _ _ _).symm]
    rw [show pre.length + p.length + y.length = (pre ++ (p ++ y)).length by rw [PySem.Str.length_append,PySem.Str.length_append];omega,ih]
    congr 1
    rw [PySem.Str.append_assoc,PySem.Str.append_assoc]
    apply str_ext
    rw [strSub_toList,cps_app,len_cps pre,List.drop_left,cps_app,len_cps p,Nat.add_sub_cancel_left,List.take_left]
theorem cuts_nil {k a : Nat} : ∀ {ps : List Str},cutsOf k a ps = [] → ps ≠ [] → ∃ p,ps = [p]
  | [],_,h=>absurd rfl h
  | [p],_,_=>⟨p,rfl⟩
  | _ :: _ :: _,h,_=>by cases h
theorem join_len_ge {y : Str} : ∀ (ps : List Str),ps ≠ [] → ps.length ≤ (Str.join y ps).length + 1 ∨ y.length = 0
  | [],h=>absurd rfl h
  | [_],_=>.inl (by simp)
  | p :: q :: r,_=>by
    rcases join_len_ge (y := y) (q :: r) (by simp) with h | h
    · by_cases hy : y.length = 0
      · exact .inr hy
      · left
        rw [join_cons2,PySem.Str.length_append,PySem.Str.length_append]
        simp only [List.length_cons] at h ⊢
        omega
    · exact .inr h
theorem split_join {y : Str} {c d : Nat} (hy : y.cps.toList = [c,d]) (hcd : d ≠ c) (hk : PySem.Builtin.Str.strKind y = 1) {ps : List Str} (h0 : ps ≠ []) (hp : ∀ p ∈ ps,c ∉ p.cps.toList) : Txt.split (Str.join y ps) y = ps := by
  have hyl : y.length = 2 := by rw [len_cps,hy];rfl
  have hj := orun_join hy hcd ((Str.join y ps).length + 1) ps ⟨#[]⟩ #[] h0 hp (by
    rcases join_len_ge (y := y) ps h0 with h | h
    · rw [List.size_toArray];simp only [List.length_nil,Nat.zero_add];exact h
    · omega)
  have e0 : (⟨#[]⟩ : Str) ++ Str.join y ps = Str.join y ps := PySem.Str.empty_append _
  rw [e0,show (⟨#[]⟩ : Str).length = 0 from rfl] at hj
  have ho : occurrences (Str.join y ps) y 0 (Str.join y ps).length ((Str.join y ps).length + 1) = cutsOf 2 0 ps := by
    rw [occ_eq]
    exact hj.trans (by simp)
  have hone : (∃ p,ps = [p]) → [Str.join y ps] = ps := fun ⟨p,e⟩=>by rw [e];rfl
  have hmany : ps.length < 2 → ∃ p,ps = [p] := by
    intro h
    rcases ps with _ | ⟨p,_ | ⟨q,r⟩⟩
    · exact absurd rfl h0
    · exact ⟨p,rfl⟩
    · simp only [List.length_cons] at h;omega
  unfold Txt.split
  split
  · rename_i hc
    refine hone (hmany ?_)
    rw [Bool.or_eq_true,decide_eq_true_eq,decide_eq_true_eq] at hc
    rcases hc with hc | hc
    · rcases ps with _ | ⟨p,_ | ⟨q,r⟩⟩
      · exact absurd rfl h0
      · simp
      · rw [join_cons2,PySem.Str.length_append,PySem.Str.length_append] at hc
        omega
    · exact absurd hc (by rw [hk];unfold PySem.Builtin.Str.strKind;split <;> (try split) <;> decide)
  · rw [ho]
    split
    · rename_i hc
      exact hone (cuts_nil (List.isEmpty_iff.mp hc) h0)
    · rw [partsBetween_eq]
      have := parts_join (y := y) ps ⟨#[]⟩ h0
      rw [e0,hyl] at this
      rw [hyl]
      exact this
theorem slice_to (a b : Str) {k : Int} (h : k = (a.length : Int)) : Txt.slice (a ++ b) none (some k) = a := by
  subst h
  show sliceText _ _ _ = _
  rw [sliceText_to ⟨by omega,by rw [cps_app,List.length_append,len_cps];omega⟩]
  apply str_ext
  rw [List.drop_zero,cps_app,len_cps]
  show (List.take _ _) = _
  rw [show ((a.cps.toList.length : Int) - 0).toNat = a.cps.toList.length by omega,List.take_left]
theorem slice_from (a b : Str) {k : Int} (h : k = (a.length : Int)) : Txt.slice (a ++ b) (some k) none = b := by
  subst h
  show sliceText _ _ _ = _
  rw [sliceText_from ⟨by omega,by rw [cps_app,List.length_append,len_cps];omega⟩]
  apply str_ext
  rw [cps_app,len_cps,List.length_append]
  show (List.take _ (List.drop _ _)) = _
  rw [show ((a.cps.toList.length : Int)).toNat = a.cps.toList.length from rfl,List.drop_left,List.take_of_length_le (by omega)]
theorem idx_neg (l : Option Int) {n : Nat} (h : 1 ≤ n) : strSliceIndices l (some (-1)) 1 n = strSliceIndices l (some ((n : Int) - 1)) 1 n := by
  have a : ¬ ((n : Int) - 1 < 0) := by omega
  simp [strSliceIndices,a,show (-1 : Int) + n = n - 1 by omega]
theorem idx_neg' (l : Option Int) {n : Nat} (h : 1 ≤ n) : strSliceIndices (some (-1)) l 1 n = strSliceIndices (some ((n : Int) - 1)) l 1 n := by
  have a : ¬ ((n : Int) - 1 < 0) := by omega
  simp [strSliceIndices,a,show (-1 : Int) + n = n - 1 by omega]
theorem slice_init (a : Str) (c : Nat) : Txt.slice (a ++ ⟨#[c]⟩) none (some (-1)) = a := by
  have hl : (a ++ ⟨#[c]⟩ : Str).length = a.length + 1 := PySem.Str.length_append _ _
  have e : Txt.slice (a ++ ⟨#[c]⟩) none (some (-1)) = Txt.slice (a ++ ⟨#[c]⟩) none (some (a.length : Int)) := by
    unfold Txt.slice
    rw [idx_neg none (by omega),hl,show ((a.length + 1 : Nat) : Int) - 1 = (a.length : Int) by omega]
  rw [e,slice_to _ _ rfl]
theorem slice_last (a : Str) (c : Nat) : Txt.slice (a ++ ⟨#[c]⟩) (some (-1)) none = ⟨#[c]⟩ := by
  have hl : (a ++ ⟨#[c]⟩ : Str).length = a.length + 1 := PySem.Str.length_append _ _
  have e : Txt.slice (a ++ ⟨#[c]⟩) (some (-1)) none = Txt.slice (a ++ ⟨#[c]⟩) (some (a.length : Int)) none := by
    unfold Txt.slice
    rw [idx_neg' none (by omega),hl,show ((a.length + 1 : Nat) : Int) - 1 = (a.length : Int) by omega]
  rw [e,slice_from _ _ rfl]
theorem nat_cps (m : Nat) : (Str.ofString (Nat.repr m)).cps.toList = (Nat.toDigits 10 m).map Char.toNat := PySem.W.KIN.signs_num m
theorem nat_dig (m : Nat) : ∀ c ∈ (Str.ofString (Nat.repr m)).cps.toList,48 ≤ c ∧ c ≤ 57 := by
  intro c hc
  rw [nat_cps] at hc
  obtain ⟨d,hd,rfl⟩ := List.mem_map.mp hc
  have h := Nat.isDigit_of_mem_toDigits (by decide) (by decide) hd
  simp only [Char.isDigit,Bool.and_eq_true,decide_eq_true_eq] at h
  exact ⟨UInt32.le_iff_toNat_le.mp h.1,UInt32.le_iff_toNat_le.mp h.2⟩
theorem nat_ne (m : Nat) : (Str.ofString (Nat.repr m)).cps.toList ≠ [] := by
  rw [nat_cps]
  exact fun e=>Nat.toDigits_ne_nil (List.map_eq_nil_iff.mp e)
theorem nat_figs (m : Nat) : figs (Str.ofString (Nat.repr m)) = true := by
  unfold figs
  rw [List.all_eq_true]
  intro c hc
  simpa using nat_dig m c hc
theorem nat_val (m : Nat) : numV (Str.ofString (Nat.repr m)) = (m : Int) := by
  unfold numV
  rw [nat_cps,PySem.W.KIN.val_back]
theorem nat_nil (m : Nat) : (Str.ofString (Nat.repr m) == Str.ofString "") = false := by
  rw [beq_eq_false_iff_ne]
  intro e
  exact nat_ne m (by rw [e];rfl)
theorem num_nat (m : Nat) : numF (Str.ofString (Nat.repr m)) = (m : Int) := by
  have h1 : (Txt.slice (Str.ofString (Nat.repr m)) none (some 1) == Str.ofString "-") = false := by
    rw [beq_eq_false_iff_ne]
    obtain ⟨c,r,e⟩ : ∃ c r,(Str.ofString (Nat.repr m)).cps.toList = c :: r := List.exists_cons_of_ne_nil (nat_ne m)
    have e2 : Str.ofString (Nat.repr m) = (⟨#[c]⟩ : Str) ++ ⟨r.toArray⟩ := str_ext (by rw [e,cps_app];rfl)
    rw [e2,slice_to ⟨#[c]⟩ ⟨r.toArray⟩ (k := 1) rfl]
    intro q
    have hc := nat_dig m c (by rw [e];exact .head _)
    have : [c] = [45] := congrArg (fun x : Str=>x.cps.toList) q
    have : c = 45 := (List.cons.inj this).1
    omega
  unfold numF
  rw [if_neg (by rw [h1];decide),if_neg (by rw [nat_nil];decide),if_pos (nat_figs m),nat_val]
theorem num_int (n : Int) : numF (Str.ofString (toString n)) = n := by
  cases n with
  | ofNat m=>exact num_nat m
  | negSucc m =>
    have e : Str.ofString (toString (Int.negSucc m)) = Str.ofString "-" ++ Str.ofString (Nat.repr (m + 1)) := by
      apply str_ext
      rw [cps_app,signs_ofString,signs_ofString,signs_ofString,← List.map_append,← String.toList_append]
      rfl
    unfold numF
    rw [e,slice_to (Str.ofString "-") _ (k := 1) rfl,slice_from (Str.ofString "-") _ (k := 1) rfl,if_pos (by rfl),if_neg (by rw [nat_nil];decide),if_pos (nat_figs _),nat_val]
    rfl
theorem int_cps (n : Int) : ∀ c ∈ (Str.ofString (toString n)).cps.toList,c = 45 ∨ (48 ≤ c ∧ c ≤ 57) := by
  intro c hc
  cases n with
  | ofNat m=>exact .inr (nat_dig m c hc)
  | negSucc m =>
    rw [signs_ofString] at hc
    have e : (toString (Int.negSucc m)).toList = '-' :: (Nat.repr (m + 1)).toList := by
      show ("-" ++ Nat.repr (m + 1)).toList = _
      rw [String.toList_append];rfl
    rw [e,List.map_cons] at hc
    rcases List.mem_cons.mp hc with rfl | hc
    · exact .inl rfl
    · rw [← signs_ofString] at hc
      exact .inr (nat_dig _ c hc)
end
section
open PyProof.Rows.KTD PySem.Builtin PySem.Builtin.Str PySem.StrLaws
noncomputable def strD : PyData → Str
  | .str x=>x
  | _=>Str.ofString ""
noncomputable abbrev fiveA (n : Str) : Bool := [Str.ofString "fence",Str.ofString "lui",Str.ofString "auipc",Str.ofString "jal"].any fun x=>x == n
noncomputable abbrev fourA (n : Str) : Bool := [Str.ofString "sb",Str.ofString "sh",Str.ofString "sw",Str.ofString "jalr"].any fun x=>x == n
noncomputable abbrev inA (l : List Str) (n : Str) : Bool := l.any fun x=>x == n
noncomputable abbrev storesL : List Str := [Str.ofString "sb",Str.ofString "sh",Str.ofString "sw"]
noncomputable abbrev shiftsL : List Str := [Str.ofString "slli",Str.ofString "srli",Str.ofString "srai"]
noncomputable abbrev Chk (n f : Str) (i : Int) : Prop :=
  n ≠ Str.ofString "" ∧ (∀ c ∈ n.cps.toList,97 ≤ c ∧ c ≤ 122) ∧ n.length ≤ 8 ∧
  ((f = Str.ofString "U" ∧ fiveA n = true ∧ ((n = Str.ofString "lui" ∧ i = 55) ∨ (n = Str.ofString "auipc" ∧ i = 23)))
  ∨ (f = Str.ofString "J" ∧ fiveA n = true ∧ n = Str.ofString "jal" ∧ i = 111)
  ∨ (f = Str.ofString "B" ∧ fiveA n = false ∧ inA [Str.ofString "lui",Str.ofString "auipc"] n = false ∧ (n == Str.ofString "fence") = false ∧ (n == Str.ofString "jal") = false ∧ inA brL n = true ∧ i = 99 + ((brL.idxOf n : Nat) : Int) * 4096)
  ∨ (f = Str.ofString "I" ∧ placeF n = true ∧ fiveA n = false ∧ inA brL n = false ∧ fourA n = true ∧ n = Str.ofString "jalr" ∧ i = 103)
  ∨ (f = Str.ofString "I" ∧ placeF n = true ∧ fiveA n = false ∧ inA brL n = false ∧ fourA n = false ∧ inA storesL n = false ∧ (n == Str.ofString "jalr") = false ∧ inA feL n = true ∧ i = 3 + ((feL.idxOf n : Nat) : Int) * 4096)
  ∨ (f = Str.ofString "I" ∧ placeF n = false ∧ fiveA n = false ∧ inA brL n = false ∧ inA shiftsL n = false ∧ inA wfL n = true ∧ i = 19 + ((wfL.idxOf n : Nat) : Int) * 4096)
  ∨ (f = Str.ofString "H" ∧ fiveA n = false ∧ inA brL n = false ∧ ((n = Str.ofString "slli" ∧ i = 4115) ∨ (n = Str.ofString "srli" ∧ i = 20499) ∨ (n = Str.ofString "srai" ∧ i = 1073762323)))
  ∨ (f = Str.ofString "S" ∧ fiveA n = false ∧ inA brL n = false ∧ fourA n = true ∧ inA storesL n = true ∧ i = 35 + ((storesL.idxOf n : Nat) : Int) * 4096)
  ∨ (f = Str.ofString "R" ∧ fiveA n = false ∧ inA brL n = false ∧ i % 128 = 51 ∧
      ((inA shiftsL n = false ∧ inA wfL n = false ∧ inA tiL n = true ∧ i = 51 + ((tiL.idxOf n : Nat) : Int) * 4096 + 33554432) ∨ (inA shiftsL n = false ∧ inA wfL n = false ∧ inA tiL n = false ∧ inA wcL n = true ∧ i = 51 + ((wcL.idxOf n : Nat) : Int) * 4096) ∨ (n = Str.ofString "sub" ∧ i = 1073741875) ∨ (n = Str.ofString "sra" ∧ i = 1073762355)))
  ∨ (f = Str.ofString "F" ∧ fiveA n = true ∧ n = Str.ofString "fence" ∧ i = 15)
  ∨ (f = Str.ofString "E" ∧ ((n = Str.ofString "ecall" ∧ i = 115) ∨ (n = Str.ofString "ebreak" ∧ i = 1048691))))
set_option synthInstance.maxSize 100000 in
set_option synthInstance.maxHeartbeats 0 in
theorem tab_chk : (nbbL.all fun p=>decide (Chk (strD p.2) (formF (strD p.2)) p.1) && oneF p.1) = true := by kernel_rfl
theorem nbb_key {l : List (Int × PyData)} {i : Int} {d : PyData} : PySem.Spec.lookup (.int i) (l.map fun p=>(PyData.int p.1,p.2)) = some d → (i,d) ∈ l := by
  induction l with
  | nil=>intro h;cases h
  | cons p l ih =>
    obtain ⟨k,x⟩ := p
    intro h
    have h : (if PySem.Spec.same (PyData.int k) (.int i) = true then some x else PySem.Spec.lookup (.int i) (l.map fun p=>(PyData.int p.1,p.2))) = some d := h
    by_cases e : k = i
    · subst e
      have hs : PySem.Spec.same (PyData.int k) (.int k) = true := by show decide (k = k) = true;exact decide_eq_true rfl
      rw [if_pos hs] at h
      cases h;exact .head _
    · have hs : ¬ PySem.Spec.same (PyData.int k) (.int i) = true := by show ¬ decide (k = i) = true;simpa using e
      rw [if_neg hs] at h
      exact .tail _ (ih h)
set_option synthInstance.maxSize 100000 in
set_option synthInstance.maxHeartbeats 0 in
theorem nbb_chk {i : Int} (h : nbb i ≠ Str.ofString "") : Chk (nbb i) (formF (nbb i)) i ∧ oneF i = true := by
  unfold nbb at h ⊢
  split at h
  · rename_i x e
    have hm := nbb_key e
    have := List.all_eq_true.mp tab_chk _ hm
    rw [Bool.and_eq_true] at this
    exact ⟨of_decide_eq_true this.1,this.2⟩
  · exact absurd rfl h
noncomputable def BaseR (v i : Int) : Prop :=
  ((v % 128 = 55 ∨ v % 128 = 23 ∨ v % 128 = 111) ∧ i = v % 128) ∨ (v % 128 = 115 ∧ i = v) ∨ (v % 128 = 15 ∧ i = 15 ∧ v % 2 ^ 20 = 15 ∧ v / 2 ^ 28 = 0) ∨
  ((v % 128 = 51 ∨ (v % 128 = 19 ∧ (v / 2 ^ 12 % 8 = 1 ∨ v / 2 ^ 12 % 8 = 5))) ∧ i = v % 128 + v / 2 ^ 12 % 8 * 2 ^ 12 + v / 2 ^ 25 * 2 ^ 25) ∨
  ((v % 128 ≠ 55 ∧ v % 128 ≠ 23 ∧ v % 128 ≠ 111 ∧ v % 128 ≠ 115 ∧ v % 128 ≠ 15 ∧ v % 128 ≠ 51 ∧ (v % 128 = 19 → v / 2 ^ 12 % 8 ≠ 1 ∧ v / 2 ^ 12 % 8 ≠ 5)) ∧ i = v % 128 + v / 2 ^ 12 % 8 * 2 ^ 12)
theorem pick {p : Int} {P : Bool → Str → Prop} {b1 b2 b3 b4 b5 b6 : Bool} {n1 n2 n3 n4 n5 n6 : Str} (k1 : p = 55 ∨ p = 23 ∨ p = 111 → P b1 n1) (k2 : p = 115 → P b2 n2) (k3 : p = 15 → P b3 n3) (k4 : p = 51 → P b4 n4) (k5 : p = 19 → P b5 n5)
    (k6 : p ≠ 55 ∧ p ≠ 23 ∧ p ≠ 111 ∧ p ≠ 115 ∧ p ≠ 15 ∧ p ≠ 51 → p ≠ 19 → P b6 n6) :
    P (if p = 55 ∨ p = 23 ∨ p = 111 then b1 else if p = 19 then b5 else if p = 51 then b4 else if p = 15 then b3 else if p = 115 then b2 else b6) (if p = 55 ∨ p = 23 ∨ p = 111 then n1 else if p = 115 then n2 else if p = 15 then n3 else if p = 51 then n4 else if p = 19 then n5 else n6) := by
  by_cases q1 : p = 55 ∨ p = 23 ∨ p = 111
  · rw [if_pos q1,if_pos q1];exact k1 q1
  rw [if_neg q1,if_neg q1]
  by_cases q2 : p = 115
  · subst q2;exact k2 rfl
  by_cases q3 : p = 15
  · subst q3;exact k3 rfl
  by_cases q4 : p = 51
  · subst q4;exact k4 rfl
  by_cases q5 : p = 19
  · subst q5;exact k5 rfl
  rw [if_neg q2,if_neg q2,if_neg q3,if_neg q3,if_neg q4,if_neg q4,if_neg q5,if_neg q5]
  exact k6 ⟨fun e=>q1 (.inl e),fun e=>q1 (.inr (.inl e)),fun e=>q1 (.inr (.inr e)),q2,q3,q4⟩ q5
noncomputable def oneT (p l : Int) : Bool := if p = 103 then l = 0 else if p = 99 then ¬ (l = 2 ∨ l = 3) else if p = 3 then ¬ (l = 3 ∨ l = 6 ∨ l = 7) else if p = 35 then l = 0 ∨ l = 1 ∨ l = 2 else false
noncomputable def one19F (l h : Int) : Bool := if l = 1 ∨ l = 5 then h = 0 ∨ (l = 5 ∧ h = 32) else true
noncomputable def one51F (l h : Int) : Bool := h = 0 ∨ h = 1 ∨ (h = 32 ∧ (l = 0 ∨ l = 5))
theorem both {v : Int} {P : Bool → Str → Prop} (k1 : v % 128 = 55 ∨ v % 128 = 23 ∨ v % 128 = 111 → P true (nbb (v % 128))) (k2 : v % 128 = 115 → P (decide (v = 115 ∨ v = 1048691)) (nbb v))
    (k3 : v % 128 = 15 → P (decide (v % 2 ^ 20 = 15 ∧ v / 2 ^ 28 = 0)) (if v % 2 ^ 20 = 15 ∧ v / 2 ^ 28 = 0 then Str.ofString "fence" else Str.ofString ""))
    (k4 : v % 128 = 51 → P (one51F (v / 2 ^ 12 % 8) (v / 2 ^ 25)) (nbb (v % 128 + v / 2 ^ 12 % 8 * 2 ^ 12 + v / 2 ^ 25 * 2 ^ 25)))
    (k5 : v % 128 = 19 → P (one19F (v / 2 ^ 12 % 8) (v / 2 ^ 25)) (if v / 2 ^ 12 % 8 = 1 ∨ v / 2 ^ 12 % 8 = 5 then nbb (v % 128 + v / 2 ^ 12 % 8 * 2 ^ 12 + v / 2 ^ 25 * 2 ^ 25) else nbb (v % 128 + v / 2 ^ 12 % 8 * 2 ^ 12)))
    (k6 : v % 128 ≠ 55 ∧ v % 128 ≠ 23 ∧ v % 128 ≠ 111 ∧ v % 128 ≠ 115 ∧ v % 128 ≠ 15 ∧ v % 128 ≠ 51 → v % 128 ≠ 19 → P (oneT (v % 128) (v / 2 ^ 12 % 8)) (nbb (v % 128 + v / 2 ^ 12 % 8 * 2 ^ 12))) : P (oneF v) (nameF v) :=
  pick k1 k2 k3 k4 k5 k6
theorem name_base {v : Int} : nameF v ≠ Str.ofString "" → ∃ i,BaseR v i ∧ Chk (nameF v) (formF (nameF v)) i ∧ oneF i = true := by
  refine both (P := fun _ n=>n ≠ Str.ofString "" → ∃ i,BaseR v i ∧ Chk n (formF n) i ∧ oneF i = true) (fun q h=>⟨_,.inl ⟨q,rfl⟩,nbb_chk h⟩) (fun q h=>⟨_,.inr (.inl ⟨q,rfl⟩),nbb_chk h⟩) (fun q h=>?_) (fun q h=>⟨_,.inr (.inr (.inr (.inl ⟨.inl q,rfl⟩))),nbb_chk h⟩) (fun q=>?_) (fun q q5 h=>⟨_,.inr (.inr (.inr (.inr ⟨⟨q.1,q.2.1,q.2.2.1,q.2.2.2.1,q.2.2.2.2.1,q.2.2.2.2.2,fun e=>absurd e q5⟩,rfl⟩))),nbb_chk h⟩)
  · by_cases h4 : v % 2 ^ 20 = 15 ∧ v / 2 ^ 28 = 0
    · rw [if_pos h4]
      have e : nbb 15 = Str.ofString "fence" := by kernel_rfl
      exact ⟨15,.inr (.inr (.inl ⟨q,rfl,h4⟩)),e ▸ nbb_chk (by rw [e];decide)⟩
    · rw [if_neg h4] at h;exact absurd rfl h
  · by_cases h6 : v / 2 ^ 12 % 8 = 1 ∨ v / 2 ^ 12 % 8 = 5
    · rw [if_pos h6];exact fun h=>⟨_,.inr (.inr (.inr (.inl ⟨.inr ⟨q,h6⟩,rfl⟩))),nbb_chk h⟩
    · rw [if_neg h6];exact fun h=>⟨_,.inr (.inr (.inr (.inr ⟨⟨by omega,by omega,by omega,by omega,by omega,by omega,fun _=>⟨fun e=>h6 (.inl e),fun e=>h6 (.inr e)⟩⟩,rfl⟩))),nbb_chk h⟩
theorem name_el {v : Int} {P : Prop} (h : nameF v ≠ Str.ofString "")
    (kU : ∀ {i},BaseR v i → formF (nameF v) = Str.ofString "U" → fiveA (nameF v) = true → ((nameF v = Str.ofString "lui" ∧ i = 55) ∨ (nameF v = Str.ofString "auipc" ∧ i = 23)) → P)
    (kJ : ∀ {i},BaseR v i → formF (nameF v) = Str.ofString "J" → fiveA (nameF v) = true → nameF v = Str.ofString "jal" → i = 111 → P)
    (kB : ∀ {i},BaseR v i → formF (nameF v) = Str.ofString "B" → fiveA (nameF v) = false → inA [Str.ofString "lui",Str.ofString "auipc"] (nameF v) = false → (nameF v == Str.ofString "fence") = false → (nameF v == Str.ofString "jal") = false → inA brL (nameF v) = true → i = 99 + ((brL.idxOf (nameF v) : Nat) : Int) * 4096 → P)
    (kI : ∀ {i},BaseR v i → formF (nameF v) = Str.ofString "I" → placeF (nameF v) = true → fiveA (nameF v) = false → inA brL (nameF v) = false → fourA (nameF v) = true → nameF v = Str.ofString "jalr" → i = 103 → P)
    (kL : ∀ {i},BaseR v i → formF (nameF v) = Str.ofString "I" → placeF (nameF v) = true → fiveA (nameF v) = false → inA brL (nameF v) = false → fourA (nameF v) = false → inA storesL (nameF v) = false → (nameF v == Str.ofString "jalr") = false → inA feL (nameF v) = true → i = 3 + ((feL.idxOf (nameF v) : Nat) : Int) * 4096 → P)
    (kW : ∀ {i},BaseR v i → formF (nameF v) = Str.ofString "I" → placeF (nameF v) = false → fiveA (nameF v) = false → inA brL (nameF v) = false → inA shiftsL (nameF v) = false → inA wfL (nameF v) = true → i = 19 + ((wfL.idxOf (nameF v) : Nat) : Int) * 4096 → P)
    (kH : ∀ {i},BaseR v i → formF (nameF v) = Str.ofString "H" → fiveA (nameF v) = false → inA brL (nameF v) = false → ((nameF v = Str.ofString "slli" ∧ i = 4115) ∨ (nameF v = Str.ofString "srli" ∧ i = 20499) ∨ (nameF v = Str.ofString "srai" ∧ i = 1073762323)) → P)
    (kS : ∀ {i},BaseR v i → formF (nameF v) = Str.ofString "S" → fiveA (nameF v) = false → inA brL (nameF v) = false → fourA (nameF v) = true → inA storesL (nameF v) = true → i = 35 + ((storesL.idxOf (nameF v) : Nat) : Int) * 4096 → P)
    (kR : ∀ {i},BaseR v i → formF (nameF v) = Str.ofString "R" → fiveA (nameF v) = false → inA brL (nameF v) = false → i % 128 = 51 → ((inA shiftsL (nameF v) = false ∧ inA wfL (nameF v) = false ∧ inA tiL (nameF v) = true ∧ i = 51 + ((tiL.idxOf (nameF v) : Nat) : Int) * 4096 + 33554432) ∨ (inA shiftsL (nameF v) = false ∧ inA wfL (nameF v) = false ∧ inA tiL (nameF v) = false ∧ inA wcL (nameF v) = true ∧ i = 51 + ((wcL.idxOf (nameF v) : Nat) : Int) * 4096) ∨ (nameF v = Str.ofString "sub" ∧ i = 1073741875) ∨ (nameF v = Str.ofString "sra" ∧ i = 1073762355)) → P)
    (kF : ∀ {i},BaseR v i → formF (nameF v) = Str.ofString "F" → fiveA (nameF v) = true → nameF v = Str.ofString "fence" → i = 15 → P)
    (kE : ∀ {i},BaseR v i → formF (nameF v) = Str.ofString "E" → ((nameF v = Str.ofString "ecall" ∧ i = 115) ∨ (nameF v = Str.ofString "ebreak" ∧ i = 1048691)) → P) : P :=
  (name_base h).elim fun _ z=>z.2.1.2.2.2.elim (fun c=>kU z.1 c.1 c.2.1 c.2.2) fun c=>c.elim (fun c=>kJ z.1 c.1 c.2.1 c.2.2.1 c.2.2.2) fun c=>c.elim (fun c=>kB z.1 c.1 c.2.1 c.2.2.1 c.2.2.2.1 c.2.2.2.2.1 c.2.2.2.2.2.1 c.2.2.2.2.2.2) fun c=>c.elim (fun c=>kI z.1 c.1 c.2.1 c.2.2.1 c.2.2.2.1 c.2.2.2.2.1 c.2.2.2.2.2.1 c.2.2.2.2.2.2) fun c=>c.elim (fun c=>kL z.1 c.1 c.2.1 c.2.2.1 c.2.2.2.1 c.2.2.2.2.1 c.2.2.2.2.2.1 c.2.2.2.2.2.2.1 c.2.2.2.2.2.2.2.1 c.2.2.2.2.2.2.2.2) fun c=>c.elim (fun c=>kW z.1 c.1 c.2.1 c.2.2.1 c.2.2.2.1 c.2.2.2.2.1 c.2.2.2.2.2.1 c.2.2.2.2.2.2) fun c=>c.elim (fun c=>kH z.1 c.1 c.2.1 c.2.2.1 c.2.2.2) fun c=>c.elim (fun c=>kS z.1 c.1 c.2.1 c.2.2.1 c.2.2.2.1 c.2.2.2.2.1 c.2.2.2.2.2) fun c=>c.elim (fun c=>kR z.1 c.1 c.2.1 c.2.2.1 c.2.2.2.1 c.2.2.2.2) fun c=>c.elim (fun c=>kF z.1 c.1 c.2.1 c.2.2.1 c.2.2.2) fun c=>kE z.1 c.1 c.2
end
section
open PyProof.Rows.KTD PySem.Builtin PySem.Builtin.Str PySem.StrLaws
theorem cell_regs : ∀ i : Fin 32,cellF (regF ((i : Nat) : Int)) = ((i : Nat) : Int) := by decide +kernel
theorem cell_fld (v : Int) (k : Nat) : cellF (regF (fldF v k)) = v / 2 ^ k % 32 := by
  rw [fld_eq]
  generalize v / 2 ^ k = x
  have h0 := Int.emod_nonneg x (b := 32) (by decide)
  have h1 := Int.emod_lt_of_pos x (b := 32) (by decide)
  have e := cell_regs ⟨(x % 32).toNat,by omega⟩
  have e2 : (((x % 32).toNat : Nat) : Int) = x % 32 := Int.toNat_of_nonneg h0
  rw [show (((⟨(x % 32).toNat,by omega⟩ : Fin 32) : Nat) : Int) = x % 32 from e2] at e
  exact e
theorem regs_ok : (regsL.all fun x=>x.cps.toList.all fun c=>decide (48 ≤ c ∧ c ≠ 58)) = true := by decide +kernel
theorem reg_cps (i : Int) : ∀ c ∈ (regF i).cps.toList,48 ≤ c := by
  intro c hc
  unfold regF at hc
  rw [List.getD_eq_getElem?_getD] at hc
  cases e : regsL[i.toNat]? with
  | none=>rw [e] at hc;cases hc
  | some x =>
    rw [e] at hc
    have := List.all_eq_true.mp (List.all_eq_true.mp regs_ok x (List.mem_of_getElem? e)) c hc
    simp only [decide_eq_true_eq] at this
    exact this.1
theorem fset_ok : ∀ b : Fin 16,setF (fsetF ((b : Nat) : Int)) = ((b : Nat) : Int) ∧ ((fsetF ((b : Nat) : Int)).cps.all fun c=>decide (c < 128)) = true ∧ ((fsetF ((b : Nat) : Int)).cps.toList.all fun c=>decide (48 ≤ c)) = true := by decide +kernel
theorem fset_of {x : Int} (h : 0 ≤ x ∧ x < 16) : setF (fsetF x) = x ∧ ((fsetF x).cps.all fun c=>decide (c < 128)) = true ∧ ((fsetF x).cps.toList.all fun c=>decide (48 ≤ c)) = true := by
  have e := fset_ok ⟨x.toNat,by omega⟩
  have e2 : ((x.toNat : Nat) : Int) = x := Int.toNat_of_nonneg h.1
  rw [show (((⟨x.toNat,by omega⟩ : Fin 16) : Nat) : Int) = x from e2] at e
  exact e
theorem sgn_cases {x : Int} {k : Nat} {a : Int} (h : (2 : Int) ^ k = a) (h2 : (2 : Int) ^ (k - 1) * 2 = a) (hx : 0 ≤ x ∧ x < a) : (sgn x k = x ∧ x * 2 < a) ∨ (sgn x k = x - a ∧ a ≤ x * 2) := by
  unfold sgn
  rw [h,Int.emod_eq_of_lt hx.1 hx.2]
  split
  · exact .inl ⟨rfl,by omega⟩
  · exact .inr ⟨rfl,by omega⟩
theorem fm {x : Int} {a : Int} (h : 0 ≤ a) : x.fmod a = x % a := Int.fmod_eq_emod_of_nonneg _ h
theorem fdv {x : Int} {a : Int} (h : 0 ≤ a) : x.fdiv a = x / a := Int.fdiv_eq_ediv_of_nonneg _ h
theorem ite_P {α : Type} {P : α → Prop} {c : Prop} [Decidable c] {a b : α} (ha : P a) (hb : P b) : P (if c then a else b) := by
  split
  · exact ha
  · exact hb
theorem all_0 {Q : Str → Prop} : ∀ p ∈ ([] : List Str),Q p := fun _ h=>(nomatch h)
theorem all_c {Q : Str → Prop} {a : Str} {l : List Str} (h1 : Q a) (h2 : ∀ p ∈ l,Q p) : ∀ p ∈ a :: l,Q p := fun p h=>by
  rcases List.mem_cons.mp h with rfl | h
  · exact h1
  · exact h2 p h
theorem ops_all {Q : Str → Prop} (v : Int) (hr : ∀ i,Q (regF i)) (hi : ∀ n : Int,Q (Str.ofString (toString n))) (hp : ∀ n i : Int,Q (Str.ofString (toString n) ++ Str.ofString "(" ++ regF i ++ Str.ofString ")")) (hf : ∀ x : Int,0 ≤ x ∧ x < 16 → Q (fsetF x)) : ∀ p ∈ opsF v,Q p := by
  unfold opsF
  have h2 : ∀ {a b : Str},Q a → Q b → ∀ p ∈ [a,b],Q p := fun h1 h2=>all_c h1 (all_c h2 all_0)
  have h3 : ∀ {a b c : Str},Q a → Q b → Q c → ∀ p ∈ [a,b,c],Q p := fun h1 h2 h3=>all_c h1 (all_c h2 (all_c h3 all_0))
  exact ite_P (P := fun l=>∀ p ∈ l,Q p) (h3 (hr _) (hr _) (hr _)) (ite_P (P := fun l=>∀ p ∈ l,Q p) (ite_P (P := fun l=>∀ p ∈ l,Q p) (h2 (hr _) (hp _ _)) (h3 (hr _) (hr _) (hi _))) (ite_P (P := fun l=>∀ p ∈ l,Q p) (h3 (hr _) (hr _) (hi _)) (ite_P (P := fun l=>∀ p ∈ l,Q p) (h2 (hr _) (hp _ _))
    (ite_P (P := fun l=>∀ p ∈ l,Q p) (h3 (hr _) (hr _) (hi _)) (ite_P (P := fun l=>∀ p ∈ l,Q p) (h2 (hr _) (hi _)) (ite_P (P := fun l=>∀ p ∈ l,Q p) (h2 (hr _) (hi _)) (ite_P (P := fun l=>∀ p ∈ l,Q p) (h2 (hf _ (immF_high v)) (hf _ (immF_low v))) all_0)))))))
theorem ops_cps (v : Int) (_ : 0 ≤ v ∧ v < 2 ^ 32) : ∀ p ∈ opsF v,44 ∉ p.cps.toList := by
  have hr : ∀ i,44 ∉ (regF i).cps.toList := fun i q=>absurd (reg_cps i 44 q) (by decide)
  have hi : ∀ n : Int,44 ∉ (Str.ofString (toString n)).cps.toList := fun n q=>absurd (int_cps n 44 q) (by decide)
  refine ops_all v hr hi (fun n i q=>?_) fun x hx q=>?_
  · rw [cps_app,cps_app,cps_app] at q
    rcases List.mem_append.mp q with q | q
    · rcases List.mem_append.mp q with q | q
      · rcases List.mem_append.mp q with q | q
        · exact hi n q
        · revert q;decide
      · exact hr i q
    · revert q;decide
  · have := List.all_eq_true.mp (fset_of hx).2.2 44 q
    revert this;decide
theorem sep_cps : (Str.ofString ", ").cps.toList = [44,32] := rfl
theorem gap_cps : (Str.ofString " ").cps.toList = 32 :: [] := rfl
theorem ops_split {v : Int} (h : 0 ≤ v ∧ v < 2 ^ 32) (h0 : opsF v ≠ []) : Txt.split (Txt.join (Str.ofString ", ") (opsF v)) (Str.ofString ", ") = opsF v := by
  rw [join_str]
  exact split_join sep_cps (by decide) (by decide +kernel) h0 (ops_cps v h)
theorem dis_part {v : Int} (hn : nameF v ≠ Str.ofString "") (h0 : opsF v ≠ []) (hc : ∀ c ∈ (nameF v).cps.toList,97 ≤ c ∧ c ≤ 122) : Txt.partition (disF v) (Str.ofString " ") = (nameF v,Str.ofString " ",Txt.join (Str.ofString ", ") (opsF v)) := by
  unfold disF
  rw [if_neg hn,if_neg h0]
  exact part_at gap_cps fun q=>by have := hc 32 q;omega
theorem place_part (n i : Int) : Txt.partition (Str.ofString (toString n) ++ Str.ofString "(" ++ regF i ++ Str.ofString ")") (Str.ofString "(") = (Str.ofString (toString n),Str.ofString "(",regF i ++ Str.ofString ")") := by
  rw [show Str.ofString (toString n) ++ Str.ofString "(" ++ regF i ++ Str.ofString ")" = Str.ofString (toString n) ++ Str.ofString "(" ++ (regF i ++ Str.ofString ")") from PySem.Str.append_assoc _ _ _]
  exact part_at (c := 40) (r := []) rfl fun q=>by have := int_cps n 40 q;omega
theorem place_last (i : Int) : (Txt.slice (regF i ++ Str.ofString ")") (some (-1)) none != Str.ofString ")") = false := by
  rw [show Str.ofString ")" = ⟨#[41]⟩ from rfl,slice_last,bne_self_eq_false]
theorem place_init (i : Int) : Txt.slice (regF i ++ Str.ofString ")") none (some (-1)) = regF i := by
  rw [show Str.ofString ")" = ⟨#[41]⟩ from rfl,slice_init]
-- the sums
theorem sp (v : Int) (n m : Nat) : v / 2 ^ n * 2 ^ n = v / 2 ^ n % 2 ^ m * 2 ^ n + v / 2 ^ (n + m) * 2 ^ (n + m) := by
  have e : v / 2 ^ (n + m) = v / 2 ^ n / 2 ^ m := by rw [Int.pow_add,Int.ediv_ediv_of_nonneg (Int.le_of_lt (Int.pow_pos (by decide)))]
  have h := Int.emod_add_mul_ediv (v / 2 ^ n) (2 ^ m)
  rw [e,Int.pow_add,Int.mul_comm (2 ^ n) (2 ^ m),← Int.mul_assoc,← Int.add_mul]
  rw [Int.mul_comm (v / 2 ^ n / 2 ^ m),h]
theorem sp0 (v : Int) (n : Nat) : v = v % 2 ^ n + v / 2 ^ n * 2 ^ n := by
  have h := Int.emod_add_mul_ediv v (2 ^ n)
  rw [Int.mul_comm] at h;exact h.symm
theorem mid {lo md hi N M x : Int} (hN : 0 < N) (h0 : 0 ≤ lo ∧ lo < N) (h1 : 0 ≤ md ∧ md < M) (e : x = lo + (md + M * hi) * N) : x / N % M = md := by
  rw [e,Int.add_mul_ediv_right _ _ (Int.ne_of_gt hN),Int.ediv_eq_zero_of_lt h0.1 h0.2,Int.zero_add,Int.add_mul_emod_self_left,Int.emod_eq_of_lt h1.1 h1.2]
theorem sgn_k {x : Int} {k : Nat} {a b : Int} (h : (2 : Int) ^ k = a) (h2 : (2 : Int) ^ (k - 1) * 2 = a) (hb : b * 2 = a) (hx : 0 ≤ x ∧ x < a) : ∃ q,sgn x k = x + q * a ∧ -b ≤ sgn x k ∧ sgn x k < b := by
  rcases sgn_cases h h2 hx with ⟨e,g⟩ | ⟨e,g⟩
  · exact ⟨0,by rw [e];omega,by rw [e];omega⟩
  · exact ⟨-1,by rw [e];omega,by rw [e];omega⟩
theorem sumU {v k : Int} (h : v % 128 = k) : k + v / 2 ^ 7 % 32 * 128 + v / 2 ^ 12 * 4096 = v := by
  rw [← h]
  refine Eq.trans ?_ ((sp0 v 7).trans (congrArg (_ + ·) (sp v 7 5))).symm
  show v % 2 ^ 7 + v / 2 ^ 7 % 2 ^ 5 * 2 ^ 7 + v / 2 ^ 12 * 2 ^ 12 = v % 2 ^ 7 + (v / 2 ^ 7 % 2 ^ 5 * 2 ^ 7 + (v / 2 ^ 12 * 2 ^ 12))
  ac_rfl
theorem sumR {v f : Int} (h : v % 128 + v / 2 ^ 12 % 8 * 2 ^ 12 + v / 2 ^ 25 * 2 ^ 25 = f) : f + v / 2 ^ 7 % 32 * 128 + v / 2 ^ 15 % 32 * 32768 + v / 2 ^ 20 % 32 * 1048576 = v := by
  rw [← h]
  refine Eq.trans ?_ ((sp0 v 7).trans (congrArg (_ + ·) ((sp v 7 5).trans (congrArg (_ + ·) ((sp v 12 3).trans (congrArg (_ + ·) ((sp v 15 5).trans (congrArg (_ + ·) (sp v 20 5))))))))).symm
  show v % 2 ^ 7 + v / 2 ^ 12 % 2 ^ 3 * 2 ^ 12 + v / 2 ^ 25 * 2 ^ 25 + v / 2 ^ 7 % 2 ^ 5 * 2 ^ 7 + v / 2 ^ 15 % 2 ^ 5 * 2 ^ 15 + v / 2 ^ 20 % 2 ^ 5 * 2 ^ 20 = v % 2 ^ 7 + (v / 2 ^ 7 % 2 ^ 5 * 2 ^ 7 + (v / 2 ^ 12 % 2 ^ 3 * 2 ^ 12 + (v / 2 ^ 15 % 2 ^ 5 * 2 ^ 15 + (v / 2 ^ 20 % 2 ^ 5 * 2 ^ 20 + (v / 2 ^ 25 * 2 ^ 25)))))
  ac_rfl
theorem sumI {v f : Int} (h : v % 128 + v / 2 ^ 12 % 8 * 2 ^ 12 = f) : f + v / 2 ^ 7 % 32 * 128 + v / 2 ^ 15 % 32 * 32768 + v / 2 ^ 20 * 1048576 = v := by
  rw [← h]
  refine Eq.trans ?_ ((sp0 v 7).trans (congrArg (_ + ·) ((sp v 7 5).trans (congrArg (_ + ·) ((sp v 12 3).trans (congrArg (_ + ·) (sp v 15 5))))))).symm
  show v % 2 ^ 7 + v / 2 ^ 12 % 2 ^ 3 * 2 ^ 12 + v / 2 ^ 7 % 2 ^ 5 * 2 ^ 7 + v / 2 ^ 15 % 2 ^ 5 * 2 ^ 15 + v / 2 ^ 20 * 2 ^ 20 = v % 2 ^ 7 + (v / 2 ^ 7 % 2 ^ 5 * 2 ^ 7 + (v / 2 ^ 12 % 2 ^ 3 * 2 ^ 12 + (v / 2 ^ 15 % 2 ^ 5 * 2 ^ 15 + (v / 2 ^ 20 * 2 ^ 20))))
  ac_rfl
theorem sumF {v : Int} (h1 : v % 2 ^ 20 = 15) (h2 : v / 2 ^ 28 = 0) : 15 + (16 * (v / 2 ^ 20 % 256 / 16) + v / 2 ^ 20 % 256 % 16) * 1048576 = v := by omega
theorem immI_eq {v : Int} (h : 0 ≤ v ∧ v < 2 ^ 32) : (-2048 ≤ immI v ∧ immI v < 2048) ∧ immI v % 4096 = v / 2 ^ 20 := by
  unfold immI
  have hx : 0 ≤ v / 2 ^ 20 ∧ v / 2 ^ 20 < 4096 := by omega
  rcases sgn_cases (k := 12) (a := 4096) rfl rfl hx with ⟨e,g⟩ | ⟨e,g⟩ <;> rw [e] <;> omega
theorem immS_eq {v : Int} (h : 0 ≤ v ∧ v < 2 ^ 32) : (-2048 ≤ immS v ∧ immS v < 2048) ∧ immS v % 32 = v / 2 ^ 7 % 32 ∧ immS v / 32 % 128 = v / 2 ^ 25 := by
  unfold immS
  have hb : 0 ≤ v / 2 ^ 7 % 32 ∧ v / 2 ^ 7 % 32 < 32 := by omega
  have ha : 0 ≤ v / 2 ^ 25 ∧ v / 2 ^ 25 < 128 := by omega
  generalize v / 2 ^ 7 % 32 = b at *
  generalize v / 2 ^ 25 = a at *
  clear h
  have hx : 0 ≤ a * 2 ^ 5 + b ∧ a * 2 ^ 5 + b < 4096 := by omega
  rcases sgn_cases (k := 12) (a := 4096) rfl rfl hx with ⟨e,g⟩ | ⟨e,g⟩ <;> rw [e] <;> clear e <;> omega (splitMinMax := true)
theorem sumS {v f : Int} (h : v % 128 + v / 2 ^ 12 % 8 * 2 ^ 12 = f) : f + v / 2 ^ 7 % 32 * 128 + v / 2 ^ 25 * 33554432 + v / 2 ^ 20 % 32 * 1048576 + v / 2 ^ 15 % 32 * 32768 = v := by
  rw [← h]
  refine Eq.trans ?_ ((sp0 v 7).trans (congrArg (_ + ·) ((sp v 7 5).trans (congrArg (_ + ·) ((sp v 12 3).trans (congrArg (_ + ·) ((sp v 15 5).trans (congrArg (_ + ·) (sp v 20 5))))))))).symm
  show v % 2 ^ 7 + v / 2 ^ 12 % 2 ^ 3 * 2 ^ 12 + v / 2 ^ 7 % 2 ^ 5 * 2 ^ 7 + v / 2 ^ 25 * 2 ^ 25 + v / 2 ^ 20 % 2 ^ 5 * 2 ^ 20 + v / 2 ^ 15 % 2 ^ 5 * 2 ^ 15 = v % 2 ^ 7 + (v / 2 ^ 7 % 2 ^ 5 * 2 ^ 7 + (v / 2 ^ 12 % 2 ^ 3 * 2 ^ 12 + (v / 2 ^ 15 % 2 ^ 5 * 2 ^ 15 + (v / 2 ^ 20 % 2 ^ 5 * 2 ^ 20 + (v / 2 ^ 25 * 2 ^ 25)))))
  ac_rfl
theorem immB_eq {v : Int} (h : 0 ≤ v ∧ v < 2 ^ 32) : (-4096 ≤ immB v ∧ immB v < 4096) ∧ immB v % 2 = 0 ∧ immB v / 4096 % 2 = v / 2 ^ 31 ∧ immB v / 32 % 64 = v / 2 ^ 25 % 64 ∧ immB v / 2 % 16 = v / 2 ^ 8 % 16 ∧ immB v / 2048 % 2 = v / 2 ^ 7 % 2 := by
  unfold immB
  have ha : 0 ≤ v / 2 ^ 31 ∧ v / 2 ^ 31 < 2 := by omega
  have hb : 0 ≤ v / 2 ^ 7 % 2 ∧ v / 2 ^ 7 % 2 < 2 := by omega
  have hc : 0 ≤ v / 2 ^ 25 % 64 ∧ v / 2 ^ 25 % 64 < 64 := by omega
  have hd : 0 ≤ v / 2 ^ 8 % 16 ∧ v / 2 ^ 8 % 16 < 16 := by omega
  generalize v / 2 ^ 31 = a at *
  generalize v / 2 ^ 7 % 2 = b at *
  generalize v / 2 ^ 25 % 64 = c at *
  generalize v / 2 ^ 8 % 16 = d at *
  clear h
  have hx : 0 ≤ a * 2 ^ 12 + b * 2 ^ 11 + c * 2 ^ 5 + d * 2 ^ 1 ∧ a * 2 ^ 12 + b * 2 ^ 11 + c * 2 ^ 5 + d * 2 ^ 1 < 8192 := by omega
  obtain ⟨q,e,r1,r2⟩ := sgn_k (k := 13) (a := 8192) (b := 4096) rfl rfl rfl hx
  refine ⟨⟨r1,r2⟩,?_⟩
  rw [e]
  clear e r1 r2 hx
  refine ⟨?_,?_,?_,?_,?_⟩
  · clear ha hb hc hd;omega
  · exact mid (lo := b * 2048 + c * 32 + d * 2) (md := a) (hi := q) (by decide) (by clear ha;omega) ha (by clear ha hb hc hd;omega)
  · exact mid (lo := d * 2) (md := c) (hi := b + 2 * a + 4 * q) (by decide) (by clear ha hb hc;omega) hc (by clear ha hb hc hd;omega)
  · exact mid (lo := 0) (md := d) (hi := c + 64 * b + 128 * a + 256 * q) (by decide) (by decide) hd (by clear ha hb hc hd;omega)
  · exact mid (lo := c * 32 + d * 2) (md := b) (hi := a + 2 * q) (by decide) (by clear ha hb;omega) hb (by clear ha hb hc hd;omega)
theorem sumB {v f : Int} (h : v % 128 + v / 2 ^ 12 % 8 * 2 ^ 12 = f) : f + v / 2 ^ 31 * 2147483648 + v / 2 ^ 25 % 64 * 33554432 + v / 2 ^ 8 % 16 * 256 + v / 2 ^ 7 % 2 * 128 + v / 2 ^ 15 % 32 * 32768 + v / 2 ^ 20 % 32 * 1048576 = v := by
  rw [← h]
  refine Eq.trans ?_ ((sp0 v 7).trans (congrArg (_ + ·) ((sp v 7 1).trans (congrArg (_ + ·) ((sp v 8 4).trans (congrArg (_ + ·) ((sp v 12 3).trans (congrArg (_ + ·) ((sp v 15 5).trans (congrArg (_ + ·) ((sp v 20 5).trans (congrArg (_ + ·) (sp v 25 6))))))))))))).symm
  show v % 2 ^ 7 + v / 2 ^ 12 % 2 ^ 3 * 2 ^ 12 + v / 2 ^ 31 * 2 ^ 31 + v / 2 ^ 25 % 2 ^ 6 * 2 ^ 25 + v / 2 ^ 8 % 2 ^ 4 * 2 ^ 8 + v / 2 ^ 7 % 2 ^ 1 * 2 ^ 7 + v / 2 ^ 15 % 2 ^ 5 * 2 ^ 15 + v / 2 ^ 20 % 2 ^ 5 * 2 ^ 20 = v % 2 ^ 7 + (v / 2 ^ 7 % 2 ^ 1 * 2 ^ 7 + (v / 2 ^ 8 % 2 ^ 4 * 2 ^ 8 + (v / 2 ^ 12 % 2 ^ 3 * 2 ^ 12 + (v / 2 ^ 15 % 2 ^ 5 * 2 ^ 15 + (v / 2 ^ 20 % 2 ^ 5 * 2 ^ 20 + (v / 2 ^ 25 % 2 ^ 6 * 2 ^ 25 + (v / 2 ^ 31 * 2 ^ 31)))))))
  ac_rfl
theorem immJ_eq {v : Int} (h : 0 ≤ v ∧ v < 2 ^ 32) : (-1048576 ≤ immJ v ∧ immJ v < 1048576) ∧ immJ v % 2 = 0 ∧ immJ v / 1048576 % 2 = v / 2 ^ 31 ∧ immJ v / 2 % 1024 = v / 2 ^ 21 % 1024 ∧ immJ v / 2048 % 2 = v / 2 ^ 20 % 2 ∧ immJ v / 4096 % 256 = v / 2 ^ 12 % 256 := by
  unfold immJ
  have ha : 0 ≤ v / 2 ^ 31 ∧ v / 2 ^ 31 < 2 := by omega
  have hb : 0 ≤ v / 2 ^ 12 % 256 ∧ v / 2 ^ 12 % 256 < 256 := by omega
  have hc : 0 ≤ v / 2 ^ 20 % 2 ∧ v / 2 ^ 20 % 2 < 2 := by omega
  have hd : 0 ≤ v / 2 ^ 21 % 1024 ∧ v / 2 ^ 21 % 1024 < 1024 := by omega
  generalize v / 2 ^ 31 = a at *
  generalize v / 2 ^ 12 % 256 = b at *
  generalize v / 2 ^ 20 % 2 = c at *
  generalize v / 2 ^ 21 % 1024 = d at *
  clear h
  have hx : 0 ≤ a * 2 ^ 20 + b * 2 ^ 12 + c * 2 ^ 11 + d * 2 ^ 1 ∧ a * 2 ^ 20 + b * 2 ^ 12 + c * 2 ^ 11 + d * 2 ^ 1 < 2097152 := by omega
  obtain ⟨q,e,r1,r2⟩ := sgn_k (k := 21) (a := 2097152) (b := 1048576) rfl rfl rfl hx
  refine ⟨⟨r1,r2⟩,?_⟩
  rw [e]
  clear e r1 r2 hx
  refine ⟨?_,?_,?_,?_,?_⟩
  · clear ha hb hc hd;omega
  · exact mid (lo := b * 4096 + c * 2048 + d * 2) (md := a) (hi := q) (by decide) (by clear ha;omega) ha (by clear ha hb hc hd;omega)
  · exact mid (lo := 0) (md := d) (hi := c + 2 * b + 512 * a + 1024 * q) (by decide) (by decide) hd (by clear ha hb hc hd;omega)
  · exact mid (lo := d * 2) (md := c) (hi := b + 256 * a + 512 * q) (by decide) (by clear ha hb hc;omega) hc (by clear ha hb hc hd;omega)
  · exact mid (lo := c * 2048 + d * 2) (md := b) (hi := a + 2 * q) (by decide) (by clear ha hb;omega) hb (by clear ha hb hc hd;omega)
theorem sumJ {v : Int} (h : v % 128 = 111) : 111 + v / 2 ^ 7 % 32 * 128 + v / 2 ^ 31 * 2147483648 + v / 2 ^ 21 % 1024 * 2097152 + v / 2 ^ 20 % 2 * 1048576 + v / 2 ^ 12 % 256 * 4096 = v := by
  rw [← h]
  refine Eq.trans ?_ ((sp0 v 7).trans (congrArg (_ + ·) ((sp v 7 5).trans (congrArg (_ + ·) ((sp v 12 8).trans (congrArg (_ + ·) ((sp v 20 1).trans (congrArg (_ + ·) (sp v 21 10))))))))).symm
  show v % 2 ^ 7 + v / 2 ^ 7 % 2 ^ 5 * 2 ^ 7 + v / 2 ^ 31 * 2 ^ 31 + v / 2 ^ 21 % 2 ^ 10 * 2 ^ 21 + v / 2 ^ 20 % 2 ^ 1 * 2 ^ 20 + v / 2 ^ 12 % 2 ^ 8 * 2 ^ 12 = v % 2 ^ 7 + (v / 2 ^ 7 % 2 ^ 5 * 2 ^ 7 + (v / 2 ^ 12 % 2 ^ 8 * 2 ^ 12 + (v / 2 ^ 20 % 2 ^ 1 * 2 ^ 20 + (v / 2 ^ 21 % 2 ^ 10 * 2 ^ 21 + (v / 2 ^ 31 * 2 ^ 31)))))
  ac_rfl
end
section
theorem ops_R {v : Int} (h : formF (nameF v) = Str.ofString "R") : opsF v = [regF (fldF v 7),regF (fldF v 15),regF (fldF v 20)] := by unfold opsF;rw [h,if_pos rfl]
theorem ops_I0 {v : Int} (h : formF (nameF v) = Str.ofString "I") (hp : placeF (nameF v) = true) : opsF v = [regF (fldF v 7),Str.ofString (toString (immI v)) ++ Str.ofString "(" ++ regF (fldF v 15) ++ Str.ofString ")"] := by unfold opsF;rw [h,if_neg (by decide),if_pos rfl,hp];rfl
theorem ops_I1 {v : Int} (h : formF (nameF v) = Str.ofString "I") (hp : placeF (nameF v) = false) : opsF v = [regF (fldF v 7),regF (fldF v 15),Str.ofString (toString (immI v))] := by unfold opsF;rw [h,if_neg (by decide),if_pos rfl,hp];rfl
theorem ops_H {v : Int} (h : formF (nameF v) = Str.ofString "H") : opsF v = [regF (fldF v 7),regF (fldF v 15),Str.ofString (toString (immH v))] := by unfold opsF;rw [h,if_neg (by decide),if_neg (by decide),if_pos rfl]
theorem ops_S {v : Int} (h : formF (nameF v) = Str.ofString "S") : opsF v = [regF (fldF v 20),Str.ofString (toString (immS v)) ++ Str.ofString "(" ++ regF (fldF v 15) ++ Str.ofString ")"] := by unfold opsF;rw [h,if_neg (by decide),if_neg (by decide),if_neg (by decide),if_pos rfl]
theorem ops_B {v : Int} (h : formF (nameF v) = Str.ofString "B") : opsF v = [regF (fldF v 15),regF (fldF v 20),Str.ofString (toString (immB v))] := by unfold opsF;rw [h,if_neg (by decide),if_neg (by decide),if_neg (by decide),if_neg (by decide),if_pos rfl]
theorem ops_U {v : Int} (h : formF (nameF v) = Str.ofString "U") : opsF v = [regF (fldF v 7),Str.ofString (toString (immU v))] := by unfold opsF;rw [h,if_neg (by decide),if_neg (by decide),if_neg (by decide),if_neg (by decide),if_neg (by decide),if_pos rfl]
theorem ops_J {v : Int} (h : formF (nameF v) = Str.ofString "J") : opsF v = [regF (fldF v 7),Str.ofString (toString (immJ v))] := by unfold opsF;rw [h,if_neg (by decide),if_neg (by decide),if_neg (by decide),if_neg (by decide),if_neg (by decide),if_neg (by decide),if_pos rfl]
theorem ops_F {v : Int} (h : formF (nameF v) = Str.ofString "F") : opsF v = [fsetF ((immF v).fdiv (2 ^ Int.toNat 4)),fsetF (Builtin.bitAnd (immF v) 15)] := by unfold opsF;rw [h,if_neg (by decide),if_neg (by decide),if_neg (by decide),if_neg (by decide),if_neg (by decide),if_neg (by decide),if_neg (by decide),if_pos rfl]
theorem ops_E {v : Int} (h : formF (nameF v) = Str.ofString "E") : opsF v = [] := by unfold opsF;rw [h,if_neg (by decide),if_neg (by decide),if_neg (by decide),if_neg (by decide),if_neg (by decide),if_neg (by decide),if_neg (by decide),if_neg (by decide)]
theorem pl_len (n i : Int) (h : -2147483648 ≤ n ∧ n < 2147483648) : (Str.ofString (toString n) ++ Str.ofString "(" ++ regF i ++ Str.ofString ")").length ≤ 600 := by
  have := int_len h.1 h.2
  have := regF_len i
  rw [PySem.Str.length_append,PySem.Str.length_append,PySem.Str.length_append]
  have l1 : (Str.ofString "(").length = 1 := rfl
  have l2 : (Str.ofString ")").length = 1 := rfl
  omega
theorem rs_len (i : Int) : (regF i ++ Str.ofString ")").length ≤ 600 := by
  have := regF_len i
  rw [PySem.Str.length_append]
  have l2 : (Str.ofString ")").length = 1 := rfl
  omega
theorem wf_idx {n : Str} (h1 : inA shiftsL n = false) (h2 : inA wfL n = true) : ((wfL.idxOf n : Nat) : Int) ≠ 1 ∧ ((wfL.idxOf n : Nat) : Int) ≠ 5 ∧ ((wfL.idxOf n : Nat) : Int) < 8 := by
  have key : (wfL.all fun n=>inA shiftsL n || (decide (wfL.idxOf n ≠ 1 ∧ wfL.idxOf n ≠ 5 ∧ wfL.idxOf n < 8))) = true := by decide +kernel
  have := List.all_eq_true.mp key n (any_mem h2)
  rw [h1,Bool.false_or,decide_eq_true_eq] at this
  omega
open PyProof.Rows.KTD PySem.Builtin PySem.Builtin.Str PySem.StrLaws
theorem p12 : (2 : Int) ^ 12 = 4096 := rfl
theorem p25 : (2 : Int) ^ 25 = 4096 * 8192 := rfl
theorem lowA {p x y : Int} : (p % 128 + x * 2 ^ 12 + y * 2 ^ 25) % 128 = p % 128 := by
  rw [show p % 128 + x * 2 ^ 12 + y * 2 ^ 25 = p % 128 + 128 * (x * 32 + y * 262144) by omega,Int.add_mul_emod_self_left,Int.emod_emod_of_dvd p (Int.dvd_refl 128)]
theorem lowB {p x : Int} : (p % 128 + x * 2 ^ 12) % 128 = p % 128 := by
  rw [show p % 128 + x * 2 ^ 12 = p % 128 + 128 * (x * 32) by omega,Int.add_mul_emod_self_left,Int.emod_emod_of_dvd p (Int.dvd_refl 128)]
theorem f3B {p x : Int} (hp : 0 ≤ p ∧ p < 4096) : (p + x % 8 * 2 ^ 12) / 4096 % 8 = x % 8 := by
  rw [p12,Int.add_mul_ediv_right p (x % 8) (by decide),Int.ediv_eq_zero_of_lt hp.1 hp.2,Int.zero_add,Int.emod_emod_of_dvd x (Int.dvd_refl 8)]
theorem f3A {p x y : Int} (hp : 0 ≤ p ∧ p < 4096) : (p + x % 8 * 2 ^ 12 + y * 2 ^ 25) / 4096 % 8 = x % 8 := by
  rw [p12,p25,show p + x % 8 * 4096 + y * (4096 * 8192) = p + (x % 8 + 8 * (y * 1024)) * 4096 by omega,Int.add_mul_ediv_right p _ (by decide),Int.ediv_eq_zero_of_lt hp.1 hp.2,Int.zero_add,Int.add_mul_emod_self_left,Int.emod_emod_of_dvd x (Int.dvd_refl 8)]
theorem m128 (v : Int) : 0 ≤ v % 128 ∧ v % 128 < 4096 := ⟨Int.emod_nonneg _ (by decide),Int.lt_trans (Int.emod_lt_of_pos _ (by decide)) (by decide)⟩
theorem base_op {v i : Int} (h : BaseR v i) : v % 128 = i % 128 := by
  rcases h with ⟨_,rfl⟩ | ⟨_,rfl⟩ | ⟨a,rfl,_⟩ | ⟨_,rfl⟩ | ⟨_,rfl⟩
  · exact (Int.emod_emod_of_dvd v (Int.dvd_refl 128)).symm
  · rfl
  · exact a
  · exact lowA.symm
  · exact lowB.symm
theorem base_low {v i : Int} (h : BaseR v i) (hi : i % 128 = 99 ∨ i % 128 = 103 ∨ i % 128 = 3 ∨ i % 128 = 35 ∨ (i % 128 = 19 ∧ i / 4096 % 8 ≠ 1 ∧ i / 4096 % 8 ≠ 5)) : v % 128 + v / 2 ^ 12 % 8 * 2 ^ 12 = i := by
  rw [← base_op h] at hi
  rcases h with ⟨a,e⟩ | ⟨a,e⟩ | ⟨a,e,_⟩ | ⟨a,e⟩ | ⟨_,e⟩
  · clear e;generalize v % 128 = p at *;generalize i / 4096 % 8 = q at *;omega
  · clear e;rw [a] at hi;generalize i / 4096 % 8 = q at *;omega
  · clear e;rw [a] at hi;generalize i / 4096 % 8 = q at *;omega
  · rw [e,f3A (m128 v)] at hi
    clear e;generalize v % 128 = p at *;generalize v / 2 ^ 12 % 8 = q at *;omega
  · exact e.symm
theorem base_high {v i : Int} (h : BaseR v i) (hi : i % 128 = 51 ∨ (i % 128 = 19 ∧ (i / 4096 % 8 = 1 ∨ i / 4096 % 8 = 5))) : v % 128 + v / 2 ^ 12 % 8 * 2 ^ 12 + v / 2 ^ 25 * 2 ^ 25 = i := by
  rw [← base_op h] at hi
  rcases h with ⟨a,e⟩ | ⟨a,e⟩ | ⟨a,e,_⟩ | ⟨_,e⟩ | ⟨⟨_,_,_,_,_,a,b⟩,e⟩
  · clear e;generalize v % 128 = p at *;generalize i / 4096 % 8 = q at *;omega
  · clear e;rw [a] at hi;generalize i / 4096 % 8 = q at *;omega
  · clear e;rw [a] at hi;generalize i / 4096 % 8 = q at *;omega
  · exact e.symm
  · rw [e,f3B (m128 v)] at hi
    rcases hi with hi | ⟨h1,h2⟩
    · exact absurd hi a
    · have := b h1
      rcases h2 with h2 | h2
      · exact absurd h2 this.1
      · exact absurd h2 this.2
theorem base_E {v i : Int} (h : BaseR v i) (hi : i % 128 = 115) : i = v := by
  rw [← base_op h] at hi
  rcases h with ⟨a,e⟩ | ⟨_,e⟩ | ⟨a,e,_⟩ | ⟨a,e⟩ | ⟨⟨_,_,_,a,_⟩,e⟩
  · clear e;rw [hi] at a;exact absurd a (by decide)
  · exact e
  · rw [hi] at a;cases a
  · clear e;rw [hi] at a;rcases a with a | ⟨a,_⟩ <;> cases a
  · exact absurd hi a
theorem base_F {v i : Int} (h : BaseR v i) (hi : i % 128 = 15) : v % 2 ^ 20 = 15 ∧ v / 2 ^ 28 = 0 := by
  rw [← base_op h] at hi
  rcases h with ⟨a,e⟩ | ⟨a,e⟩ | ⟨_,_,e⟩ | ⟨a,e⟩ | ⟨⟨_,_,_,_,a,_⟩,e⟩
  · clear e;rw [hi] at a;exact absurd a (by decide)
  · rw [hi] at a;cases a
  · exact e
  · clear e;rw [hi] at a;rcases a with a | ⟨a,_⟩ <;> cases a
  · exact absurd hi a
theorem op_of {i c k : Int} (h : i = c + k * 4096) (hc : c % 128 = c) : i % 128 = c := by
  rw [h,show c + k * 4096 = c + 128 * (k * 32) by omega,Int.add_mul_emod_self_left,hc]
theorem wf_hi {i k : Int} (h : i = 19 + k * 4096) (hk : k ≠ 1 ∧ k ≠ 5 ∧ k < 8) (h0 : 0 ≤ k) : i % 128 = 19 ∧ i / 4096 % 8 ≠ 1 ∧ i / 4096 % 8 ≠ 5 := by
  refine ⟨op_of h rfl,?_⟩
  rw [h,Int.add_mul_ediv_right 19 k (by decide),show (19 : Int) / 4096 = 0 from rfl,Int.zero_add,Int.emod_eq_of_lt h0 hk.2.2]
  exact ⟨hk.1,hk.2.1⟩
theorem tx_rng {n a b : Int} (h : a ≤ n ∧ n < b) (ha : -2147483648 ≤ a) (hb : b ≤ 2147483648) : -2147483648 ≤ n ∧ n < 2147483648 := ⟨Int.le_trans ha h.1,Int.lt_of_lt_of_le h.2 hb⟩
theorem q15 : (2 : Int) ^ Int.toNat 15 = 32768 := rfl
theorem q20 : (2 : Int) ^ Int.toNat 20 = 1048576 := rfl
theorem q25 : (2 : Int) ^ Int.toNat 25 = 33554432 := rfl
theorem q31 : (2 : Int) ^ Int.toNat 31 = 2147483648 := rfl
theorem q21 : (2 : Int) ^ Int.toNat 21 = 2097152 := rfl
theorem q8 : (2 : Int) ^ Int.toNat 8 = 256 := rfl
theorem q7 : (2 : Int) ^ Int.toNat 7 = 128 := rfl
theorem q30 : (2 : Int) ^ Int.toNat 30 = 1073741824 := rfl
noncomputable abbrev tx (n : Int) : Str := Str.ofString (toString n)
theorem tx_len {n : Int} (h : -2147483648 ≤ n ∧ n < 2147483648) : (tx n).length ≤ 600 := Nat.le_trans (int_len h.1 h.2) (by decide)
section
variable {v : Int}
theorem vU {k : Int} (h : v % 128 = k) : jmpUF k (regF (fldF v 7)) (tx (immU v)) = v := by
  unfold jmpUF
  rw [cell_fld,num_int]
  exact sumU h
theorem vJ (hv : 0 ≤ v ∧ v < 2 ^ 32) (h : v % 128 = 111) : jmpJF (regF (fldF v 7)) (tx (immJ v)) = v := by
  obtain ⟨_,_,e1,e2,e3,e4⟩ := immJ_eq hv
  unfold jmpJF
  rw [cell_fld,num_int,q20,q31,q21,fdv (by decide),fdv (by decide),fdv (by decide),fdv (by decide),fm (by decide),fm (by decide),fm (by decide),fm (by decide),e1,e2,e3,e4]
  have := sumJ h
  generalize v / 2 ^ 7 % 32 * 128 = a at *
  generalize v / 2 ^ 31 * 2147483648 = b at *
  generalize v / 2 ^ 21 % 1024 * 2097152 = c at *
  refine Eq.trans ?_ this;ac_rfl
theorem vB {n : Str} (hv : 0 ≤ v ∧ v < 2 ^ 32) (h : v % 128 + v / 2 ^ 12 % 8 * 2 ^ 12 = 99 + ((brL.idxOf n : Nat) : Int) * 4096) : jmpBF n (regF (fldF v 15)) (regF (fldF v 20)) (tx (immB v)) = v := by
  obtain ⟨_,_,e1,e2,e3,e4⟩ := immB_eq hv
  unfold jmpBF
  rw [cell_fld,cell_fld,num_int,q31,q25,q8,q7,q15,q20,fdv (by decide),fdv (by decide),fdv (by decide),fdv (by decide),fm (by decide),fm (by decide),fm (by decide),fm (by decide),e1,e2,e3,e4]
  have := sumB h
  clear h e1 e2 e3 e4
  generalize ((brL.idxOf n : Nat) : Int) * 4096 = a at *
  generalize v / 2 ^ 31 * 2147483648 = b at *
  generalize v / 2 ^ 25 % 64 * 33554432 = c at *
  generalize v / 2 ^ 8 % 16 * 256 = d at *
  generalize v / 2 ^ 7 % 2 * 128 = e at *
  generalize v / 2 ^ 15 % 32 * 32768 = f at *
  generalize v / 2 ^ 20 % 32 * 1048576 = g at *
  clear hv
  omega
theorem vF (h1 : v % 2 ^ 20 = 15) (h2 : v / 2 ^ 28 = 0) : 15 + (16 * setF (fsetF ((immF v).fdiv (2 ^ Int.toNat 4))) + setF (fsetF (Builtin.bitAnd (immF v) 15))) * 2 ^ Int.toNat 20 = v := by
  rw [(fset_of (immF_high v)).1,(fset_of (immF_low v)).1,q20,fd,bitAnd_m4]
  exact sumF h1 h2
theorem vL {k : Int} (hv : 0 ≤ v ∧ v < 2 ^ 32) (h : v % 128 + v / 2 ^ 12 % 8 * 2 ^ 12 = k) : mvL k (regF (fldF v 7)) (tx (immI v)) (regF (fldF v 15) ++ Str.ofString ")") = v := by
  unfold mvL
  rw [place_init,cell_fld,cell_fld,num_int,q15,q20,fm (by decide),(immI_eq hv).2]
  exact sumI h
theorem vS {n : Str} (hv : 0 ≤ v ∧ v < 2 ^ 32) (h : v % 128 + v / 2 ^ 12 % 8 * 2 ^ 12 = 35 + ((storesL.idxOf n : Nat) : Int) * 4096) : mvS n (regF (fldF v 20)) (tx (immS v)) (regF (fldF v 15) ++ Str.ofString ")") = v := by
  obtain ⟨_,e1,e2⟩ := immS_eq hv
  unfold mvS
  rw [place_init,cell_fld,cell_fld,num_int,q15,q20,q25,fdv (by decide),fm (by decide),fm (by decide),e1,e2]
  exact sumS h
theorem vI {n : Str} (hv : 0 ≤ v ∧ v < 2 ^ 32) (h : v % 128 + v / 2 ^ 12 % 8 * 2 ^ 12 = 19 + ((wfL.idxOf n : Nat) : Int) * 4096) : 19 + ((wfL.idxOf n : Nat) : Int) * 4096 + (cellF (regF (fldF v 7)) * 128 + cellF (regF (fldF v 15)) * 2 ^ Int.toNat 15) + (numF (tx (immI v))).fmod 4096 * 2 ^ Int.toNat 20 = v := by
  rw [cell_fld,cell_fld,num_int,q15,q20,fm (by decide),(immI_eq hv).2,← Int.add_assoc]
  exact sumI h
theorem vH {lo hi : Int} (h : v % 128 + v / 2 ^ 12 % 8 * 2 ^ 12 + v / 2 ^ 25 * 2 ^ 25 = 19 + lo * 4096 + hi * 33554432) : wkH lo hi (regF (fldF v 7)) (regF (fldF v 15)) (tx (immH v)) = v := by
  unfold wkH
  rw [cell_fld,cell_fld,num_int,q15,q20,q25]
  have := sumR h
  unfold immH
  generalize v / 2 ^ 7 % 32 * 128 = b at *
  generalize v / 2 ^ 15 % 32 * 32768 = c at *
  generalize v / 2 ^ 20 % 32 * 1048576 = d at *
  clear h
  omega
theorem vR {f : Int} (h : v % 128 + v / 2 ^ 12 % 8 * 2 ^ 12 + v / 2 ^ 25 * 2 ^ 25 = 51 + f) : wkR (regF (fldF v 7)) (regF (fldF v 15)) (regF (fldF v 20)) + f = v := by
  unfold wkR
  rw [cell_fld,cell_fld,cell_fld,q15,q20]
  have := sumR h
  generalize v / 2 ^ 7 % 32 * 128 = b at *
  generalize v / 2 ^ 15 % 32 * 32768 = c at *
  generalize v / 2 ^ 20 % 32 * 1048576 = d at *
  clear h
  omega
end
theorem jr {n n' : Str} {ps ps' : List Str} {r v : Int} (en : n' = n) (eo : ps' = ps) (e : r = v) (h : JumpR n ps r) : JumpR n' ps' v := by subst en eo e;exact h
theorem mr {n n' : Str} {ps ps' : List Str} {r v : Int} (en : n' = n) (eo : ps' = ps) (e : r = v) (h : MoveR n ps r) : MoveR n' ps' v := by subst en eo e;exact h
theorem wr {n n' : Str} {ps ps' : List Str} {r v : Int} (en : n' = n) (eo : ps' = ps) (e : r = v) (h : WorkR n ps r) : WorkR n' ps' v := by subst en eo e;exact h
inductive ReadG (v : Int) : Prop
  | J1 (j : JumpR (nameF v) (opsF v) v) (z : opsF v ≠ []) (q : fiveA (nameF v) = true)
  | J2 (j : JumpR (nameF v) (opsF v) v) (z : opsF v ≠ []) (q : fiveA (nameF v) = false) (r : inA brL (nameF v) = true)
  | M1 (j : MoveR (nameF v) (opsF v) v) (z : (opsF v).length = 2) (q : fiveA (nameF v) = false) (r : inA brL (nameF v) = false) (s : fourA (nameF v) = true)
  | M2 (j : MoveR (nameF v) (opsF v) v) (z : (opsF v).length = 2) (q : fiveA (nameF v) = false) (r : inA brL (nameF v) = false) (s : fourA (nameF v) = false) (t : inA feL (nameF v) = true)
  | W (j : WorkR (nameF v) (opsF v) v) (z : (opsF v).length = 3) (q : fiveA (nameF v) = false) (r : inA brL (nameF v) = false)
  | E1 (z : opsF v = []) (q : nameF v = Str.ofString "ecall") (e : v = 115)
  | E2 (z : opsF v = []) (q : nameF v = Str.ofString "ebreak") (e : v = 1048691)
theorem ne_cons {a : Str} {k l : List Str} (h : k = a :: l) : k ≠ [] := fun e=>by rw [e] at h;cases h
theorem readG {v : Int} (h : 0 ≤ v ∧ v < 2 ^ 32) (hn : nameF v ≠ Str.ofString "") : ReadG v := by
  have iI := immI_eq h
  refine name_el hn (fun hb hf h5 hc=>?_) (fun hb hf h5 hm hc=>?_) (fun hb hf h5 c1 c2 c3 c4 hc=>?_) (fun hb hf hp h5 hb' h4 hm hc=>?_) (fun hb hf hp h5 hb' h4 c1 c2 c3 hc=>?_) (fun hb hf hp h5 hb' c1 c2 hc=>?_) (fun hb hf h5 hb' hc=>?_) (fun hb hf h5 hb' h4 c1 hc=>?_) (fun hb hf h5 hb' hR hc=>?_) (fun hb hf h5 hm hc=>?_) (fun hb hf hc=>?_)
  · have hl := tx_len (n := immU v) (tx_rng (immU_range v h) (by decide) (by decide))
    have ho := ops_U hf
    rcases hc with ⟨hm,rfl⟩ | ⟨hm,rfl⟩
    · exact .J1 (jr hm ho (vU (base_op hb)) (.lui hl)) (ne_cons ho) h5
    · exact .J1 (jr hm ho (vU (base_op hb)) (.auipc hl)) (ne_cons ho) h5
  · subst hc
    have ho := ops_J hf
    have iJ := immJ_eq h
    exact .J1 (jr hm ho (vJ h (base_op hb)) (.jal (tx_len (immJ_range v)) (by rw [num_int];exact iJ.1.1) (by rw [num_int];exact iJ.1.2) (by rw [num_int,fm (by decide),iJ.2.1];rfl))) (ne_cons ho) h5
  · have ho := ops_B hf
    have iB := immB_eq h
    exact .J2 (jr rfl ho (vB h ((base_low hb (Or.inl (op_of hc rfl))).trans hc)) (.branch c1 c2 c3 c4 (tx_len (immB_range v)) (by rw [num_int];exact iB.1.1) (by rw [num_int];exact iB.1.2) (by rw [num_int,fm (by decide),iB.2.1];rfl))) (ne_cons ho) h5 c4
  · subst hc
    have ho := ops_I0 hf hp
    have hpp := place_part (immI v) (fldF v 15)
    exact .M1 (mr hm ho (vL h (base_low hb (by decide))) (.jalr (pl_len _ _ (immI_range v)) (tx_len (immI_range v)) (rs_len _) (congrArg (·.1) hpp) (congrArg (·.2.1) hpp) (congrArg (·.2.2) hpp) (place_last _) (by rw [num_int];exact iI.1.1) (by rw [num_int];exact iI.1.2))) (congrArg List.length ho) h5 hb' h4
  · have ho := ops_I0 hf hp
    have hpp := place_part (immI v) (fldF v 15)
    exact .M2 (mr rfl ho (vL h ((base_low hb (Or.inr (Or.inr (Or.inl (op_of hc rfl))))).trans hc)) (.load (pl_len _ _ (immI_range v)) (tx_len (immI_range v)) (rs_len _) (congrArg (·.1) hpp) (congrArg (·.2.1) hpp) (congrArg (·.2.2) hpp) (place_last _) (by rw [num_int];exact iI.1.1) (by rw [num_int];exact iI.1.2) c1 c2 c3)) (congrArg List.length ho) h5 hb' h4 c3
  · have ho := ops_I1 hf hp
    have hid : ((wfL.idxOf (nameF v) : Nat) : Int) ≠ 1 ∧ ((wfL.idxOf (nameF v) : Nat) : Int) ≠ 5 ∧ ((wfL.idxOf (nameF v) : Nat) : Int) < 8 := wf_idx c1 c2
    exact .W (wr rfl ho (vI h ((base_low hb (Or.inr (Or.inr (Or.inr (Or.inr (wf_hi hc hid (Int.natCast_nonneg _))))))).trans hc)) (.imm (tx_len (immI_range v)) c1 c2 (by rw [num_int];exact iI.1.1) (by rw [num_int];exact iI.1.2))) (congrArg List.length ho) h5 hb'
  · have ho := ops_H hf
    have iH := immH_range v
    have hl := tx_len (n := immH v) (tx_rng iH (by decide) (by decide))
    have i1 : 0 ≤ numF (tx (immH v)) := by rw [num_int];exact iH.1
    have i2 : numF (tx (immH v)) < 32 := by rw [num_int];exact iH.2
    rcases hc with ⟨hm,rfl⟩ | ⟨hm,rfl⟩ | ⟨hm,rfl⟩
    · exact .W (wr hm ho (vH (base_high hb (by decide))) (.slli hl i1 i2)) (congrArg List.length ho) h5 hb'
    · exact .W (wr hm ho (vH (base_high hb (by decide))) (.srli hl i1 i2)) (congrArg List.length ho) h5 hb'
    · exact .W (wr hm ho (vH (base_high hb (by decide))) (.srai hl i1 i2)) (congrArg List.length ho) h5 hb'
  · have ho := ops_S hf
    have hpp := place_part (immS v) (fldF v 15)
    have iS := immS_eq h
    exact .M1 (mr rfl ho (vS h ((base_low hb (Or.inr (Or.inr (Or.inr (Or.inl (op_of hc rfl)))))).trans hc)) (.store (pl_len _ _ (immS_range v)) (tx_len (immS_range v)) (rs_len _) (congrArg (·.1) hpp) (congrArg (·.2.1) hpp) (congrArg (·.2.2) hpp) (place_last _) (by rw [num_int];exact iS.1.1) (by rw [num_int];exact iS.1.2) c1)) (congrArg List.length ho) h5 hb' h4
  · have ho := ops_R hf
    have hl : (regF (fldF v 20)).length ≤ 600 := Nat.le_trans (regF_len _) (by decide)
    have hh := base_high hb (Or.inl hR)
    rcases hc with ⟨c1,c2,c3,hc⟩ | ⟨c1,c2,c3,c4,hc⟩ | ⟨hm,hc⟩ | ⟨hm,hc⟩
    · exact .W (wr rfl ho (by rw [q25,Int.add_assoc];exact vR (by rw [hh,hc,Int.add_assoc])) (.times hl c1 c2 c3)) (congrArg List.length ho) h5 hb'
    · exact .W (wr rfl ho (vR (by rw [hh,hc])) (.cells hl c1 c2 c3 c4)) (congrArg List.length ho) h5 hb'
    · exact .W (wr hm ho (by rw [q30,Int.add_assoc];exact vR (by rw [hh,hc];rfl)) (.sub hl)) (congrArg List.length ho) h5 hb'
    · exact .W (wr hm ho (by rw [q30,Int.add_assoc];exact vR (by rw [hh,hc];rfl)) (.sra hl)) (congrArg List.length ho) h5 hb'
  · have ho := ops_F hf
    subst hc
    have hb2 := base_F hb rfl
    have f1 := fset_of (immF_high v)
    have f2 := fset_of (immF_low v)
    exact .J1 (jr hm ho (vF hb2.1 hb2.2) (.fence (Nat.le_trans (fset_len _) (by decide)) (Nat.le_trans (fset_len _) (by decide)) f1.2.1 f2.2.1)) (ne_cons ho) h5
  · have ho := ops_E hf
    rcases hc with ⟨hm,rfl⟩ | ⟨hm,rfl⟩
    · exact .E1 ho hm (base_E hb rfl).symm
    · exact .E2 ho hm (base_E hb rfl).symm
end
section
open PyProof.Rows.LCg PySem.Calls
theorem c_fence {w : World} {mean : ExcName → Option Value} {mg mb : Str → Option Value} {news : List (Addr × Obj)} (a b : Str) (tn ta tb : Tok) (P : Addr) (pn : Nat) :
    Cb w mean mg mb 464 14 news (((P,listOf (List.toArray [.str a ta,.str b tb]) pn) ∈ news) ∧ a.length ≤ 600 ∧ b.length ≤ 600 ∧ a.cps.all (· < 128) = true ∧ b.cps.all (· < 128) = true) [.str (Str.ofString "fence") tn,.ref P] (fun t=>.int (15 + (16 * setF a + setF b) * 2 ^ Int.toNat 20) t) := by
  dsimp only [Cb]
  k_fill
  intros
  rename_i hpre _ _ hret
  k_with_none
  have hm9 := hpre.1
  have hal := hpre.2.1
  have hbl := hpre.2.2.1
  have ha := hpre.2.2.2.1
  have hb := hpre.2.2.2.2
  clear hpre
  k_with "execs cons" => ((with_reducible refine wpAny_execs_cons ?_);(try dsimp only))
  k_with "execs nil" => ((with_reducible refine wpAny_execs_nil ?_);(try dsimp only))
  k_with "ite" => first | (refine PySem.W.ite_pos (by with_reducible assumption) ?_) | (refine PySem.W.ite_neg (by with_reducible assumption) ?_) | (refine PySem.W.ite_isFalse (by with_reducible assumption) ?_) | (refine PySem.W.ite_pos (by decide +kernel) ?_) | (refine PySem.W.ite_neg (by decide +kernel) ?_)
  k_with "pow" => ((with_reducible refine pow_int_small ?kb1 ?kb2 ?kb3 ?_);(case kb1=>decide);(case kb2=>decide);(case kb3=>decide))
  k_with "subscriptTail Name UnaryOp ref int" => (k_dflt (refine' part_last ?k1 ?k2 ?k3 ?_;(case k1=>k_asm);(case k2=>(first | assumption | exact List.mem_cons_of_mem _ (by assumption) | exact List.mem_cons_of_mem _ (List.mem_cons_of_mem _ (by assumption)) | exact List.mem_cons_of_mem _ (List.mem_cons_of_mem _ (List.mem_cons_of_mem _ (by assumption))) | exact List.mem_cons_of_mem _ (List.mem_cons_of_mem _ (List.mem_cons_of_mem _ (List.mem_cons_of_mem _ (by assumption))))));(case k3=>exact rfl)))
  k_with "subscriptTail Name Constant ref int" => (k_dflt (refine' part_item ?k1 ?k2 ?k3 ?k4 ?_;(case k1=>k_asm);(case k2=>(first | assumption | exact List.mem_cons_of_mem _ (by assumption) | exact List.mem_cons_of_mem _ (List.mem_cons_of_mem _ (by assumption)) | exact List.mem_cons_of_mem _ (List.mem_cons_of_mem _ (List.mem_cons_of_mem _ (by assumption))) | exact List.mem_cons_of_mem _ (List.mem_cons_of_mem _ (List.mem_cons_of_mem _ (List.mem_cons_of_mem _ (by assumption))))));(case k3=>decide);(case k4=>exact rfl)))
  k_with "call builtin:len cons nil" => (first | (k_dflt (refine' part_len (k := 3) ?k1 ?k2 ?k3 ?k4 ?_;(case k1=>k_asm);(case k2=>(first | assumption | exact List.mem_cons_of_mem _ (by assumption) | exact List.mem_cons_of_mem _ (List.mem_cons_of_mem _ (by assumption)) | exact List.mem_cons_of_mem _ (List.mem_cons_of_mem _ (List.mem_cons_of_mem _ (by assumption))) | exact List.mem_cons_of_mem _ (List.mem_cons_of_mem _ (List.mem_cons_of_mem _ (List.mem_cons_of_mem _ (by assumption))))));(case k3=>exact rfl);(case k4=>decide))) | (k_dflt (refine' part_len (k := 2) ?k1 ?k2 ?k3 ?k4 ?_;(case k1=>k_asm);(case k2=>(first | assumption | exact List.mem_cons_of_mem _ (by assumption) | exact List.mem_cons_of_mem _ (List.mem_cons_of_mem _ (by assumption)) | exact List.mem_cons_of_mem _ (List.mem_cons_of_mem _ (List.mem_cons_of_mem _ (by assumption))) | exact List.mem_cons_of_mem _ (List.mem_cons_of_mem _ (List.mem_cons_of_mem _ (List.mem_cons_of_mem _ (by assumption))))));(case k3=>exact rfl);(case k4=>decide))))
  k_with "aslc" => (k_dflt (refine' comp_listA (R := fun i y=>∃ t,y = Value.int (setF ([a,b].getD i Str.empty)) t) ?k1 ?kL ?kS ?k2 ?k3 ?k4 ?k5 ?k6 ?kY ?kP ?_;(case k1=>k_asm);(case kL=>rfl);(case kS=>rfl);(case k2=>with_unfolding_all rfl);(case k3=>decide);(case k4=>rfl);(case k5=>decide);(case k6=>rfl);(case kY=>rfl);(case kP=>rfl)))
  k_with "comp" => ((with_reducible show wpAny _ _ (PySem.eval (PySem.Expr.ListComp (PySem.Expr.Call (PySem.Expr.Attribute _ _ _) _ _ _) [⟨_,_,[],_⟩] _ _) _) _ _ _);k_dflt (refine' comp_text (R := fun i y=>∃ t,y = Value.int (worthF ⟨#[x9.cps.getD i 0]⟩) t) ?k1 ?k2 ?k3 ?k4 ?k5 ?k6 ?_;(case k1=>k_asm);(case k2=>with_unfolding_all rfl);(case k3=>decide);(case k4=>rfl);(case k5=>decide);(case k6=>rfl)))
  k_with "SrcLstA" => (k_dflt (refine' SrcLstA.mk' _ _ _ _ rfl rfl ?k1 ?k2 ?k3 ?k4 ?kel ?kq;(case k1=>k_asm);(case k2=>k_asm);(case k3=>(first | assumption | exact List.mem_cons_of_mem _ (by assumption) | exact List.mem_cons_of_mem _ (List.mem_cons_of_mem _ (by assumption)) | exact List.mem_cons_of_mem _ (List.mem_cons_of_mem _ (List.mem_cons_of_mem _ (by assumption))) | exact List.mem_cons_of_mem _ (List.mem_cons_of_mem _ (List.mem_cons_of_mem _ (List.mem_cons_of_mem _ (by assumption))))));(case k4=>exact Nat.le_of_ble_eq_true rfl);(case' kel=>(intro g9 i9 hi9 v9 I9 oI9 C9 oC9 D9 oD9 m9 h9 tk9 E9 hv9 hC9 hx9 F9 N9 off9 ne9;obtain ⟨x9,t9,e9,ex9⟩ := two_str hv9;subst e9;(try simp only [PyProof.Rows.LCg.Off3,and_true] at off9);(try dsimp only)));(case' kq=>(intro ys9 D9 h9 tk9 hl9 hy9 F9 N9 o9;(try simp only [PyProof.Rows.LCg.Off1,and_true] at o9);(try dsimp only)))))
  k_with "SrcTxt" => (k_dflt (refine' SrcTxt.mk' _ _ _ rfl rfl ?k1 ?k2 ?k3 ?k4 ?kfl ?kzz;(case k1=>k_asm);(case k2=>k_asm);(case k3=>(rw [ex9];exact two_ok (P := fun x=>x.cps.all (· < 128) = true) ha hb hi9));(case k4=>(rw [ex9,sizeLine_eq];exact two_ok (P := fun x=>x.cps.size ≤ 16777216) (Nat.le_trans hal (by decide)) (Nat.le_trans hbl (by decide)) hi9));(case' kfl=>(intro g9 i8 hi8 v9 I9 oI9 C9 oC9 D9 oD9 m9 h9 tk9 E9 hv9 hC9 hx9 F9 N9 off9 ne9;obtain ⟨t9,e9⟩ := sign_worth hv9;subst e9;(try simp only [PyProof.Rows.LCg.Off3,and_true] at off9);(try dsimp only)));(case' kzz=>(intro ys9 D9 h9 tk9 hl9 hy9 F9 N9 o9;(try simp only [PyProof.Rows.LCg.Off1,and_true] at o9);(try dsimp only)))))
  k_with "storeName ref" => (k_dflt (refine' storeX_C ?F ?N ?c ?u ?d ?_ ?a ?b;(case a=>rfl);(case b=>rfl);(case F=>k_asm);(case N=>k_asm);(case c=>rfl);(case d=>k_asm);(case u=>exact UpdF.tail (Nat.ne_of_gt (And.left (by assumption))) (UpdF.head fun p9 hp9=>Nat.ne_of_lt (Nat.lt_succ_of_lt (l1 p9 hp9)))));intro h9 o9 F9 N9 d9;(try dsimp only at N9))
  k_with "getMethod ref" => (k_dflt (refine' kdg_method (knd := PySem.strKind _ _) ?k1 ?k2 ?k3 ?_;(case k1=>k_asm);(case k2=>k_mem);(case k3=>assumption)))
  k_with "call builtin:dict.get cons nil" => (k_dflt (refine' get5 ?k1 ?k2 ?k3 ?k4 ?k5 ?_;(case k1=>k_asm);(case k2=>k_mem);(case k3=>assumption);(case k4=>assumption);(case k5=>exact rfl));intro t9)
  k_with "call builtin:sum cons nil" => (k_dflt (refine' sum_made ?k1 ?k2 ?k3 ?k4 ?k5 ?k6 ?_;(case k1=>exact rfl);(case k2=>k_asm);(case k3=>k_asm);(case k4=>k_mem);(case k5=>assumption);(case k6=>assumption));intro h9 tk9 t9 F9 N9)
  k_with "subscriptTail Name Constant ref int" => (first | (k_dflt (refine' made_item (i := 0) ?k1 ?k2 ?k3 ?k4 ?k5 ?k6 ?_;(case k1=>k_asm);(case k2=>k_mem);(case k3=>assumption);(case k4=>first | (show 0 < 2;decide) | (show 1 < 2;decide));(case k5=>exact rfl);(case k6=>decide))) | (k_dflt (refine' made_item (i := 1) ?k1 ?k2 ?k3 ?k4 ?k5 ?k6 ?_;(case k1=>k_asm);(case k2=>k_mem);(case k3=>assumption);(case k4=>first | (show 0 < 2;decide) | (show 1 < 2;decide));(case k5=>exact rfl);(case k6=>decide)));intro t9)
  k_with "Plain" => (k_dflt (refine' plain_intro ?k1 ?k2 ?k3 ?kr;(case k1=>k_asm);(case k2=>k_asm);(case k3=>kcj_all);(case kr=>k_extra "elt")))
  k_with "free" => ((with_reducible show wpAny _ _ (PySem.eval (PySem.Expr.Name _ _) (compEnvC _ _ _ _)) _ _ _);k_dflt (refine' ld_freeC ?k1 ?k2 ?k3 ?k4 ?_ ?k5 ?k6;(case k5=>rfl);(case k6=>rfl);(case k1=>k_asm);(case k2=>rfl);(case k3=>k_mem);(case k4=>k_asm);k_whole))
  k_with "elt" => first | exact ⟨_,rfl⟩ | (subst ex9;exact ⟨_,rfl⟩)
  refine wpAny_call ?_
  k_dflt (refine' code_defC ?k1 ?k2 ?k3 ?k4 ?k5 ?kA ?kF ?kK ?k6 ?k7 ?k8 ?k9 ?kB ?kD ?_ ?c2 ?c3 ?c4;(case kA | kF=>exact rfl);(case kK=>assumption);(case k1 | k2 | k3 | k4 | k5=>k_asm);(case k6 | k7=>k_is);(case k8=>ktr_room);(case k9=>exact BindsTo.of_eq rfl);(case kB=>exact rfl);(case kD=>decide +kernel);(case c2 | c3 | c4=>exact rfl);k_whole;intro g' L' h' tk' cells' FG' F' N' Y' B' X' T' l1;(try k_lt l1);k_cells Y';(try simp only [List.cons_append,List.nil_append] at N');(try dsimp only);(try k_lift B');(try k_fold))
  (try (rename Fr _ _ _ _=>Fm9;replace Fm9 : Fr _ _ _ (fun y=>List.lookup y [(Str.ofString "parts",.ref P),(Str.ofString "name",.str (Str.ofString "fence") tn)]) := Fm9))
  k_steps
  all_goals (first | (refine' cb_retI hret ?e1 ?e2 ?e3;(case e2=>k_asm);(case e3=>first | k_asm | (refine' cb_drop ?cbN ?cbS;(case cbN=>assumption);(case cbS=>kcj_all)));(case e1=>exact rfl)))
end
section
open PyProof.Rows.LCg PySem.Calls
theorem c_unh {w : World} {mean : ExcName → Option Value} {mg mb : Str → Option Value} {news : List (Addr × Obj)} (v : Int) (x : Str) (tx : Tok) :
    Cb w mean mg mb 459 12 news ((0 ≤ v ∧ v < 2 ^ 32) ∧ Txt.slice x none (some 2) = Str.ofString "0x" ∧ Txt.slice x (some 2) none = hexF v ∧ x.length ≤ 600) [.str x tx] (fun t=>.int v t) := by
  dsimp only [Cb]
  k_fill
  intros
  rename_i hpre _ _ hret
  k_with_none
  have hv := hpre.1
  have hx := hpre.2.1
  have hf := hpre.2.2.1
  have hxl := hpre.2.2.2
  clear hpre
  have q1 : (Txt.slice x none (some 2) != Str.ofString "0x") = false := by rw [hx];rfl
  have q4 : (Txt.slice x (some 2) none).length = 8 := by rw [hf];rfl
  have q3 : (((Txt.slice x (some 2) none).length : Int) != 8) = false := by rw [hf];rfl
  k_with "storeName str" => (k_dflt (refine' storeX_C ?F ?N ?c (UpdF.head ?u) ?d ?_ ?a ?b;(case a=>rfl);(case b=>rfl);(case F=>k_asm);(case N=>k_asm);(case c=>rfl);(case d=>k_asm);(case u=>exact fun p9 hp9=>Nat.ne_of_lt (Nat.lt_succ_of_lt (l1 p9 hp9))));intro h9 o9 F9 N9 d9;(try dsimp only at N9))
  k_with "ne" => (k_dflt (refine' ne_nil0 ?k1 ?k2 ?k3 ?k4 ?k5 ?_;(case k1=>k_asm);(case k2=>k_mem);(case k3=>k_mem);(case k4=>ktr_units);(case k5=>exact hex_nil hv.1 hf (by assumption))))
  k_with "item" => (k_dflt (refine' item_in ?k1 ?k2 ?k3 ?_;(case k1=>omega);(case k2=>omega);(case k3=>omega)))
  k_with "find" => (k_dflt (refine' find_hex (i := i9) hf ?k2 ?k3 hv.1 ?_;(case k2=>omega);(case k3=>omega));intro t9)
  k_with "call builtin:sum cons nil" => (k_dflt (refine' sum_made ?k1 ?k2 ?k3 ?k4 ?k5 ?k6 ?_;(case k1=>exact rfl);(case k2=>k_asm);(case k3=>k_asm);(case k4=>k_mem);(case k5=>assumption);(case k6=>assumption));intro h9 tk9 t9 F9 N9)
  k_with "elt" => (apply Exists.intro;rw [hex_pow _ (by omega)])
  k_with "binaryOp Pow int int" => ((with_reducible refine pow_int_small ?kb1 ?kb2 ?kb3 ?_);(case kb1=>omega);(case kb2=>omega);(case kb3=>decide))
  k_with "comp" => ((with_reducible show wpAny _ _ (PySem.eval (PySem.Expr.ListComp _ [⟨_,_,[],_⟩] _ _) _) _ _ _);k_dflt (refine' comp_range (R := fun i y=>∃ t,y = Value.int (v / 16 ^ (7 - i) % 16 * 16 ^ (7 - i)) t) ?k1 ?k2 ?k3 ?k4 ?k5 ?k6 ?_;(case k1=>k_asm);(case k2=>with_unfolding_all rfl);(case k3=>decide);(case k4=>rfl);(case k5=>decide);(case k6=>rfl)))
  k_with "SrcRange" => (k_dflt (refine' SrcRange.mk' _ _ _ _ _ _ _ _ _ rfl rfl ?k1 ?k2 ?k3 ?k4 ?k5 ?k6 ?kel ?kq;(case k1=>k_asm);(case k2=>k_asm);(case k3=>assumption);(case k4=>first | decide | rfl);(case k5=>first | rfl | decide);(case k6=>first | size_fits | exact Nat.le_of_ble_eq_true rfl);(case' kel=>(intro g9 i9 hi9 v9 I9 oI9 C9 oC9 D9 oD9 m9 h9 tk9 E9 hv9 hC9 hx9 F9 N9 off9 ne9;obtain ⟨t9,e9⟩ := hv9;subst e9;(try simp only [Nat.succ_eq_add_one,Nat.zero_add,Nat.add_sub_cancel,Nat.div_one] at hi9);(try simp only [PyProof.Rows.LCg.Off3,and_true] at off9);(try dsimp only)));(case' kq=>(intro ys9 D9 h9 tk9 hl9 hy9 F9 N9 o9;(try simp only [PyProof.Rows.LCg.Off1,and_true] at o9);(try dsimp only)))))
  k_with "Plain" => (k_dflt (refine' plain_intro ?k1 ?k2 ?k3 ?kr;(case k1=>k_asm);(case k2=>k_asm);(case k3=>kcj_all);(case kr=>k_extra "elt")))
  k_with "free" => ((with_reducible show wpAny _ _ (PySem.eval (PySem.Expr.Name _ _) (compEnvC _ _ _ _)) _ _ _);k_dflt (refine' ld_freeC ?k1 ?k2 ?k3 ?k4 ?_ ?k5 ?k6;(case k5=>rfl);(case k6=>rfl);(case k1=>k_asm);(case k2=>rfl);(case k3=>k_mem);(case k4=>k_asm);k_whole))
  refine wpAny_call ?_
  k_dflt (refine' code_defC ?k1 ?k2 ?k3 ?k4 ?k5 ?kA ?kF ?kK ?k6 ?k7 ?k8 ?k9 ?kB ?kD ?_ ?c2 ?c3 ?c4;(case kA | kF=>exact rfl);(case kK=>assumption);(case k1 | k2 | k3 | k4 | k5=>k_asm);(case k6 | k7=>k_is);(case k8=>ktr_room);(case k9=>exact BindsTo.of_eq rfl);(case kB=>exact rfl);(case kD=>decide +kernel);(case c2 | c3 | c4=>exact rfl);k_whole;intro g' L' h' tk' cells' FG' F' N' Y' B' X' T' l1;(try k_lt l1);k_cells Y';(try simp only [List.cons_append,List.nil_append] at N');(try dsimp only);(try k_lift B');(try k_fold))
  (try (rename Fr _ _ _ _=>Fm9;replace Fm9 : Fr _ _ _ (fun y=>List.lookup y [(Str.ofString "text",.str x tx)]) := Fm9))
  k_steps
  all_goals (first | (refine' cb_retI hret ?e1 ?e2 ?e3;(case e2=>k_asm);(case e3=>first | k_asm | (refine' cb_drop ?cbN ?cbS;(case cbN=>assumption);(case cbS=>kcj_all)));(case e1=>first | exact hex_sum v hv)))
end
section
open PySem.Builtin PySem.Builtin.Str PySem.StrLaws
noncomputable def flatR : List Str → Str
  | []=>Str.empty
  | p :: r=>p ++ (Str.ofString "\n" ++ flatR r)
theorem flat_join : ∀ {rows : List Str},rows ≠ [] → Str.join (Str.ofString "\n") rows ++ Str.ofString "\n" = flatR rows
  | [],h=>absurd rfl h
  | [p],_=>by
    show p ++ _ = p ++ (_ ++ Str.empty)
    rw [PySem.Str.append_empty]
  | p :: q :: r,_=>by
    rw [join_cons2,PySem.Str.append_assoc,flat_join (rows := q :: r) (by simp),PySem.Str.append_assoc]
    rfl
noncomputable def spansOf : Nat → List Str → List (Nat × Nat × Nat)
  | _,[]=>[]
  | a,p :: r=>(a,a + p.length,a + p.length + 1) :: spansOf (a + p.length + 1) r
noncomputable def lrun (x : Str) (l : List Nat) (st : LsSt) : LsSt := Id.run (forIn (m := Id) l st (lsBody x))
theorem lrun_cons (x : Str) (i : Nat) (l : List Nat) (st : LsSt) : lrun x (i :: l) st = lrun x l (if (decide (st.snd ≤ i) && Unicode.isLineBreak (x.cps.getD i 0)) = true then (st.fst.push (st.snd,i,lsNext x i),lsNext x i) else (st.fst,st.snd)) := by
  unfold lrun
  rw [List.forIn_cons]
  unfold lsBody
  split <;> rfl
theorem lrun_app (x : Str) : ∀ (l r : List Nat) (st : LsSt),lrun x (l ++ r) st = lrun x r (lrun x l st)
  | [],_,_=>rfl
  | i :: l,r,st=>by rw [List.cons_append,lrun_cons,lrun_cons,lrun_app x l r]
theorem lrun_skip (x : Str) : ∀ (l : List Nat) (st : LsSt),(∀ i ∈ l,Unicode.isLineBreak (x.cps.getD i 0) = false) → lrun x l st = st
  | [],_,_=>rfl
  | i :: l,st,h=>by
    rw [lrun_cons,if_neg (by rw [h i (.head _),Bool.and_false];decide)]
    exact lrun_skip x l st fun j hj=>h j (.tail _ hj)
theorem getD_list (x : Str) (i : Nat) : x.cps.getD i 0 = x.cps.toList.getD i 0 := by
  rw [Array.getD_eq_getD_getElem?,List.getD_eq_getElem?_getD,Array.getElem?_toList]
theorem lrun_rows : ∀ (rows : List Str) (pre : Str) (acc : Array (Nat × Nat × Nat)),(∀ p ∈ rows,∀ c ∈ p.cps.toList,Unicode.isLineBreak c = false) →
    ((lrun (pre ++ flatR rows) (List.range' pre.length (flatR rows).length) (acc,pre.length)).1.toList = acc.toList ++ spansOf pre.length rows) ∧ (lrun (pre ++ flatR rows) (List.range' pre.length (flatR rows).length) (acc,pre.length)).2 = (pre ++ flatR rows).length := by
  intro rows
  induction rows with
  | nil=>exact fun pre acc _=>⟨(List.append_nil _).symm,by show pre.length = (pre ++ Str.empty).length;rw [PySem.Str.append_empty]⟩
  | cons p r ihr =>
    intro pre acc h
    have hp := h p (.head _)
    have nl : (Str.ofString "\n").cps.toList = [10] := rfl
    have nll : (Str.ofString "\n").length = 1 := rfl
    have ih := ihr (pre ++ (p ++ Str.ofString "\n")) (acc.push (pre.length,pre.length + p.length,pre.length + p.length + 1)) fun q hq=>h q (.tail _ hq)
    have hX : pre ++ (p ++ Str.ofString "\n") ++ flatR r = pre ++ flatR (p :: r) := by
      show _ = pre ++ (p ++ (Str.ofString "\n" ++ flatR r))
      simp only [PySem.Str.append_assoc]
    have hpl : (pre ++ (p ++ Str.ofString "\n")).length = pre.length + p.length + 1 := by rw [PySem.Str.length_append,PySem.Str.length_append,nll];omega
    have hfl : (flatR (p :: r)).length = p.length + (1 + (flatR r).length) := by
      show (p ++ (Str.ofString "\n" ++ flatR r)).length = _
      rw [PySem.Str.length_append,PySem.Str.length_append,nll]
    rw [hX,hpl] at ih
    have hXc : (pre ++ flatR (p :: r)).cps.toList = pre.cps.toList ++ (p.cps.toList ++ ([10] ++ (flatR r).cps.toList)) := by
      rw [← hX];simp only [cps_app,nl,List.append_assoc]
    generalize pre ++ flatR (p :: r) = X at ih hXc ⊢
    have s1 : lrun X (List.range' pre.length p.length) (acc,pre.length) = (acc,pre.length) := by
      refine lrun_skip _ _ _ fun i hi=>?_
      obtain ⟨j,hj,e⟩ := List.mem_range'.mp hi
      have hj2 : j < p.cps.toList.length := by rw [← len_cps];exact hj
      rw [getD_list,hXc,List.getD_eq_getElem?_getD,List.getElem?_append_right (by rw [← len_cps];omega),List.getElem?_append_left (by rw [← len_cps];omega),List.getElem?_eq_getElem (by rw [← len_cps];omega)]
      exact hp _ (List.getElem_mem _)
    have e10 : X.cps.getD (pre.length + p.length) 0 = 10 := by
      rw [getD_list,hXc,List.getD_eq_getElem?_getD,len_cps pre,len_cps p,← List.append_assoc,← List.length_append,List.getElem?_append_right (Nat.le_refl _),Nat.sub_self]
      rfl
    have s2 : ∀ l,lrun X ((pre.length + p.length) :: l) (acc,pre.length) = lrun X l (acc.push (pre.length,pre.length + p.length,pre.length + p.length + 1),pre.length + p.length + 1) := by
      intro l
      have en : lsNext X (pre.length + p.length) = pre.length + p.length + 1 := by
        unfold lsNext
        rw [e10];rfl
      rw [lrun_cons,en,e10,if_pos]
      rw [Bool.and_eq_true,decide_eq_true_eq]
      exact ⟨Nat.le_add_right _ _,by decide +kernel⟩
    rw [hfl,range_cut,lrun_app,s1,range_cut (pre.length + p.length) 1,show List.range' (pre.length + p.length) 1 = [pre.length + p.length] from rfl,List.singleton_append,s2]
    refine ⟨ih.1.trans ?_,ih.2⟩
    rw [Array.toList_push,List.append_assoc]
    rfl
theorem subs_rows : ∀ (rows : List Str) (pre : Str),(spansOf pre.length rows).map (fun q=>strSub (pre ++ flatR rows) q.1 q.2.1) = rows := by
  intro rows
  induction rows with
  | nil=>exact fun _=>rfl
  | cons p r ihr =>
    intro pre
    have ih := ihr (pre ++ (p ++ Str.ofString "\n"))
    have nll : (Str.ofString "\n").length = 1 := rfl
    have hX : pre ++ (p ++ Str.ofString "\n") ++ flatR r = pre ++ flatR (p :: r) := by
      show _ = pre ++ (p ++ (Str.ofString "\n" ++ flatR r))
      simp only [PySem.Str.append_assoc]
    have hpl : (pre ++ (p ++ Str.ofString "\n")).length = pre.length + p.length + 1 := by rw [PySem.Str.length_append,PySem.Str.length_append,nll];omega
    rw [hX,hpl] at ih
    show strSub (pre ++ flatR (p :: r)) pre.length (pre.length + p.length) :: _ = _
    rw [ih]
    congr 1
    apply str_ext
    rw [strSub_toList]
    show List.take _ (List.drop _ (pre ++ (p ++ (Str.ofString "\n" ++ flatR r))).cps.toList) = _
    rw [cps_app,len_cps pre,List.drop_left,cps_app,len_cps p,Nat.add_sub_cancel_left,List.take_left]
theorem lines_rows {rows : List Str} (h0 : rows ≠ []) (h : ∀ p ∈ rows,∀ c ∈ p.cps.toList,Unicode.isLineBreak c = false) : Txt.lines (Str.join (Str.ofString "\n") rows ++ Str.ofString "\n") = rows := by
  rw [flat_join h0]
  have hr := lrun_rows rows Str.empty #[] h
  rw [PySem.Str.empty_append] at hr
  have hs : lineSpans (flatR rows) = spansOf 0 rows := by
    rw [ls_eq]
    unfold lsEnd
    show (if (lrun (flatR rows) (List.range' 0 (flatR rows).length) (#[],0)).snd < (flatR rows).length then _ else (lrun (flatR rows) (List.range' 0 (flatR rows).length) (#[],0)).fst).toList = _
    have h2 : (lrun (flatR rows) (List.range' 0 (flatR rows).length) (#[],0)).snd = (flatR rows).length := hr.2
    rw [if_neg (by rw [h2];exact Nat.lt_irrefl _)]
    exact hr.1.trans (List.nil_append _)
  have hl : linesOf (flatR rows) = rows := by
    unfold linesOf lineCuts
    rw [hs,List.map_map]
    have := subs_rows rows Str.empty
    rw [PySem.Str.empty_append] at this
    exact this
  unfold Txt.lines
  rw [if_neg,hl]
  intro q
  have q := eq_of_beq q
  unfold lineCuts at q
  rw [hs] at q
  match rows,h0 with
  | p :: r,_ =>
    have q1 : (0,0 + p.length) = (0,(flatR (p :: r)).length) := (List.cons.inj q).1
    have q2 : 0 + p.length = (flatR (p :: r)).length := (Prod.mk.inj q1).2
    have : (flatR (p :: r)).length = p.length + (1 + (flatR r).length) := by
      show (p ++ (Str.ofString "\n" ++ flatR r)).length = _
      rw [PySem.Str.length_append,PySem.Str.length_append];rfl
    omega
end
section
open PySem.Calls
open PySem.Builtin in
theorem bj_slot : Slot "bytes" "join" "bytes.join" :=
  .of (owner := "bytes") (n := "join") (by rw [typeLookup_type,builtinLookup_eq_fast];kernel_rfl) (by decide +kernel) (by decide +kernel) (by decide +kernel)
    (by first | exact .inl (by decide +kernel) | exact .inr (by decide +kernel)) (by rw [isSubtype_type];kernel_rfl)
theorem bj_type : typeOf (.builtin "bytes.join") = pure (.type "method_descriptor") := by show builtinType _ = _;rw [builtinType_eq_fast];kernel_rfl
theorem bj_entry : entryFor table "bytes.join" = some Builtin.«bytes.join» := entryFor_of_fast (by kernel_rfl)
theorem bj_args (a b : Value) : argsOk "bytes.join" ⟨[a,b],[]⟩ := by unfold argsOk;kernel_rfl
theorem bj_ga : typeLookup (.type "bytes") "__getattribute__" = pure (some (.builtin "bytes.__getattribute__")) := by rw [typeLookup_type,builtinLookup_eq_fast];kernel_rfl
theorem bj_canon : (Manifest.canonical "bytes.__getattribute__" != "object.__getattribute__") = false := by decide +kernel
theorem bj_noga : typeLookup (.type "bytes") "__getattr__" = pure none := by rw [typeLookup_type,builtinLookup_eq_fast];kernel_rfl
open PySem.Builtin in
theorem bj_take {b : Array UInt8} {t : Tok} {id : String} : Bytes.takeBufferQuiet? id (.bytes b t) 0 = pure (some (b,none)) := by
  unfold Bytes.takeBufferQuiet? Bytes.takeBuffer?
  rw [KBy.special_eq KBy.look_buffer,KBy.own_buffer]
  rw [show Bytes.buffer? id (.bytes b t) (full := (0 : Int) == Bytes.fullReadOnly) = pure (some b) from KBy.buffer_eq]
  kernel_rfl
inductive BytesAre : List Value → List (Array UInt8) → Prop
  | nil : BytesAre [] []
  | cons (b : Array UInt8) (t : Tok) {vs : List Value} {bs : List (Array UInt8)} : BytesAre vs bs → BytesAre (.bytes b t :: vs) (b :: bs)
open PySem.Builtin in
theorem bj_letgo {M : Model} {A : Around} {E : Value → Shared → Prop} {s : Shared} {Q : Unit → Shared → Prop} : ∀ (taken : List (Value × Option Value)) (keep : List Value),(∀ p ∈ taken,p.2 = none) → Q () s → wpAny M A (Bytes.joinLetGo taken keep) Q E s
  | [],_,_,h=>wpAny_pure h
  | (x,w) :: rest,keep,hn,h=>by
    obtain rfl : w = none := hn (x,w) (.head _)
    unfold Bytes.joinLetGo
    wp_walk
    exact bj_letgo rest keep (fun p hp=>hn p (.tail _ hp)) h
theorem ba_len {vs : List Value} {bs : List (Array UInt8)} (h : BytesAre vs bs) : vs.length = bs.length := by
  induction h with
  | nil=>rfl
  | cons _ _ _ ih=>exact congrArg (· + 1) ih
theorem ba_at {vs : List Value} {bs : List (Array UInt8)} (h : BytesAre vs bs) : ∀ (i : Nat),i < vs.length → ∃ b t,vs[i]? = some (.bytes b t) ∧ bs[i]? = some b := by
  induction h with
  | nil=>intro i h;cases h
  | cons b t r ih =>
    intro i h
    cases i with
    | zero=>exact ⟨b,t,rfl,rfl⟩
    | succ i=>exact ih i (Nat.lt_of_succ_lt_succ h)
open PySem.Builtin in
theorem bj {prog : Program} {w : World} {A : Around} {E : Value → Shared → Prop} {s : Shared} {D : Addr} {vs : List Value} {bs : List (Array UInt8)} {t : Tok} {Q : Value → Shared → Prop} (hl : s.heap.IsList D vs.toArray) (hi : BytesAre vs bs) (hne : bs ≠ [])
    (hz : (bs.toArray.foldl (fun n b=>n + b.size) 0) ≤ 1000) (hz2 : (Bytes.joined #[] bs).size ≤ 1000)
    (h : ∀ b t' k,b = Bytes.joined #[] bs → Q (.bytes b t') { s with toks := k }) : wpAny (model prog w) A (call (.builtin "bytes.join") [.bytes #[] t,.ref D]) Q E s := by
  refine wpAny_call_entry bj_slot (typeIs_bytes s _ t) bj_entry ?_ (bj_args _ _)
  obtain ⟨o,ho,hc,n,hd⟩ := id hl
  show wpAny _ _ (Bytes.joinM .bytes ⟨[.bytes #[] t,.ref D],[]⟩) _ _ s
  unfold Bytes.joinM
  have hT : s.TypeIs (.ref D) "list" := hl.typeIs
  wp_walk
  rw [hd]
  refine wpAny_pure ?_
  show wpAny _ _ (if (Bytes.Kind.bytes == Bytes.Kind.bytes) = true then _ else _) _ _ s
  refine wpAny_ite_true rfl ?_
  cases hi with
  | nil=>exact absurd rfl hne
  | cons b1 t1 r =>
    cases r with
    | nil =>
      show wpAny _ _ (typeOf (.bytes b1 t1) >>= _) _ _ s
      refine wpAny_bind (wpAny_typeOf (typeIs_bytes s b1 t1) ?_)
      refine wpAny_ite_true rfl ?_
      refine wpAny_bind (wpAny_rule ?_)
      exact wpAny_pure ⟨_,rfl,h b1 t1 s.toks (by simp [Bytes.joined])⟩
    | cons b2 t2 r =>
      have hall : BytesAre (.bytes b1 t1 :: .bytes b2 t2 :: _) (b1 :: b2 :: _) := .cons b1 t1 (.cons b2 t2 r)
      revert hall hz hz2 h hd
      generalize hvs : (Value.bytes b1 t1 :: Value.bytes b2 t2 :: _ : List Value) = vs
      generalize hbs : (b1 :: b2 :: _ : List (Array UInt8)) = bs
      intro hd hz hz2 h hall
      subst hvs
      show wpAny _ _ (forIn _ _ _ >>= _) _ _ s
      refine wpAny_bind (wpAny_forIn_rng _ (fun rest (b : Array (Array UInt8) × List (Value × Option Value)) s'=>s' = s ∧ (∀ p ∈ b.2,p.2 = none ∧ p.1.onHeap = false) ∧ ∃ i,i ≤ bs.length ∧ rest = List.range' i (bs.length - i) ∧ b.1.toList = List.take i bs) _ ?turn ?fin _ _ ?hst)
      case hst=>exact ⟨rfl,fun p hp=>(by cases hp),0,Nat.zero_le _,by rw [← ba_len hall];simp [Std.Legacy.Range.size],rfl⟩
      case fin =>
        rintro ⟨parts,taken⟩ s' ⟨rfl,ht,i,hi,hr,hp⟩
        have hi2 : i = bs.length := by
          have : (List.range' i (bs.length - i)).length = 0 := by rw [← hr];rfl
          rw [List.length_range'] at this
          omega
        have hp2 : parts.toList = bs := by rw [← List.take_length (l := bs),← hi2];exact hp
        refine wpAny_bind (wpAny_of_eq (a := #[]) rfl ?_)
        refine KTBy.if_not ?_ ?_
        · show Bytes.tooLong (Array.foldl (fun x1 x2=>x1 + x2.size) (0 * (parts.size - 1)) parts) = false
          rw [Nat.zero_mul,show parts = bs.toArray by rw [← hp2],KBy.tooLong_not (Nat.le_trans hz (by decide))]
        · rw [show (parts,taken).1.toList = bs from hp2]
          refine wpAny_bind (wpAny_mkBytes ?_ (by rw [sizeLine_eq];omega))
          refine wpAny_bind (wpAny_holding (wpAny_point ?_))
          refine wpAny_bind (bj_letgo _ _ (fun p hp=>(ht p hp).1) ?_)
          exact wpAny_pure ⟨_,rfl,h _ _ _ rfl⟩
      case turn =>
        rintro x rest ⟨parts,taken⟩ s' ⟨rfl,ht,i,hi,hr,hp⟩
        have hlt : i < bs.length := by
          rcases Nat.lt_or_ge i bs.length with q | q
          · exact q
          · rw [show bs.length - i = 0 by omega] at hr;cases hr
        rw [show bs.length - i = (bs.length - i - 1) + 1 by omega,List.range'_succ] at hr
        obtain ⟨rfl,rfl⟩ := List.cons.inj hr
        obtain ⟨b,u,hv,hb⟩ := ba_at hall x (by rw [ba_len hall];exact hlt)
        dsimp only
        refine wpAny_bind (wpAny_seqItems ho hd ?_)
        dsimp only
        have hx : ∀ l : List Value,l[x]? = some (.bytes b u) → (List.toArray l).getD x Value.none = .bytes b u := fun l hl=>by
          rw [Array.getD_eq_getD_getElem?,List.getElem?_toArray,hl];rfl
        rw [hx _ hv]
        refine KTBy.if_not ?_ ?_
        · show (false || taken.any fun x=>x.1.onHeap) = false
          rw [Bool.false_or,List.any_eq_false]
          intro p hp;rw [(ht p hp).2];exact Bool.false_ne_true
        · refine wpAny_bind (wpAny_holding (wpAny_of_eq bj_take ?_))
          dsimp only
          refine wpAny_bind (wpAny_seqItems ho hd ?_)
          dsimp only
          refine KTBy.if_not (by simp) ?_
          refine wpAny_pure ⟨rfl,fun p hp=>?_,x + 1,hlt,by rw [show bs.length - (x + 1) = bs.length - x - 1 by omega],?_⟩
          · rcases List.mem_append.mp hp with hp | hp
            · exact ht p hp
            · rw [List.mem_singleton.mp hp];exact ⟨rfl,rfl⟩
          · show (parts.push b).toList = _
            rw [Array.toList_push,hp,List.take_add_one,hb];rfl
end
section
open PyProof.Rows.LCg PySem.Calls
theorem c_lhex {w : World} {mean : ExcName → Option Value} {mg mb : Str → Option Value} {news : List (Addr × Obj)} (v : Int) (tv : Tok) :
    Cb w mean mg mb 454 1 news (0 ≤ v ∧ v < 2 ^ 32) [.int v tv] (fun t=>.str (hexF v) t) := by
  dsimp only [Cb]
  k_fill
  intros
  rename_i hpre _ _ hret
  k_with_none
  k_with "eval Name m" => ((with_reducible show wpAny _ _ (PySem.eval (PySem.Expr.Name _ _) (compEnvC _ _ _ _)) _ _ _);k_dflt (refine' ld_freeC ?k1 ?k2 ?k3 ?k4 ?_ ?k5 ?k6;(case k5=>rfl);(case k6=>rfl);(case k1=>k_asm);(case k2=>rfl);(case k3=>k_mem);(case k4=>k_asm);k_whole))
  k_with "eval ListComp m" => (k_extra "comp")
  k_with "SrcRange" => (k_dflt (refine' SrcRange.mk' _ _ _ _ _ _ _ _ _ rfl rfl ?k1 ?k2 ?k3 ?k4 ?k5 ?k6 ?kel ?kq;(case k1=>k_asm);(case k2=>k_asm);(case k3=>assumption);(case k4=>first | decide | rfl);(case k5=>first | rfl | decide);(case k6=>first | size_fits | exact Nat.le_of_ble_eq_true rfl);(case' kel=>(intro g9 i9 hi9 v9 I9 oI9 C9 oC9 D9 oD9 m9 h9 tk9 E9 hv9 hC9 hx9 F9 N9 off9 ne9;obtain ⟨t9,e9⟩ := hv9;subst e9;(try simp only [Nat.succ_eq_add_one,Nat.zero_add,Nat.add_sub_cancel,Nat.div_one] at hi9);(try simp only [PyProof.Rows.LCg.Off3,and_true] at off9);(try dsimp only)));(case' kq=>(intro ys9 D9 h9 tk9 hl9 hy9 F9 N9 o9;(try simp only [PyProof.Rows.LCg.Off1,and_true] at o9);(try dsimp only)))))
  k_with "Plain" => (k_dflt (refine' plain_intro ?k1 ?k2 ?k3 ?kr;(case k1=>k_asm);(case k2=>k_asm);(case k3=>kcj_all);(case kr=>k_extra "elt")))
  k_with "call builtin:str.join m" => (k_dflt (refine' join_hex ?k1 ?k2 ?k3 ?k4 ?k5 ?_;(case k1=>k_asm);(case k2=>k_mem);(case k3=>assumption);(case k4=>decide);(case k5=>assumption));intro t9 k9)
  k_with "binaryOp Pow int int m" => ((with_reducible refine pow_int_small ?kb1 ?kb2 ?kb3 ?_);(case kb1=>omega);(case kb2=>omega);(case kb3=>decide))
  k_with "binaryOp FloorDiv int int m" => (k_dflt (refine' floordiv_int ?kb1 ?_ ?kb2;(case kb1=>exact Int.ne_of_gt (Int.pow_pos (by decide)));(case kb2=>exact Or.inl (PyProof.noPylong_small (pow16_small _ (by omega))))))
  k_with "subscriptTail Name BinOp str int m" => ((with_reducible show wpAny _ _ (subscriptTail _ _ (Value.str _ _) (Value.int (Builtin.bitAnd _ 15) _)) _ _ _);k_dflt (refine' item_and15 ?k1 ?_;(case k1=>exact rfl)))
  k_with "subscriptTail Constant BinOp str int m" => ((with_reducible show wpAny _ _ (subscriptTail _ _ (Value.str _ _) (Value.int (Int.fmod _ _) _)) _ _ _);k_dflt (refine item_str_fmod (by decide) (by decide) (by decide) ?_;intro l9))
  k_with "binaryOp RShift int int m" => ((with_reducible refine rshift_int ?kb1 ?_);(case kb1=>omega))
  k_with "comp" => (k_dflt (refine' comp_range (R := fun i y=>∃ t,y = Value.str (hexd (v / 16 ^ (7 - i) % 16)) t) ?k1 ?k2 ?k3 ?k4 ?k5 ?k6 ?_;(case k1=>k_asm);(case k2=>with_unfolding_all rfl);(case k3=>decide);(case k4=>rfl);(case k5=>decide);(case k6=>rfl)))
  k_with "elt" => first | (apply Exists.intro;rw [hex_at1 _ _ (by omega)];rfl) | (apply Exists.intro;rw [hex_at2' _ _ (by omega)];rfl)
  refine wpAny_call ?_
  k_dflt (refine' code_defC ?k1 ?k2 ?k3 ?k4 ?k5 ?kA ?kF ?kK ?k6 ?k7 ?k8 ?k9 ?kB ?kD ?_ ?c2 ?c3 ?c4;(case kA | kF=>exact rfl);(case kK=>assumption);(case k1 | k2 | k3 | k4 | k5=>k_asm);(case k6 | k7=>k_is);(case k8=>ktr_room);(case k9=>exact BindsTo.of_eq rfl);(case kB=>exact rfl);(case kD=>decide +kernel);(case c2 | c3 | c4=>exact rfl);k_whole;intro g' L' h' tk' cells' FG' F' N' Y' B' X' T' l1;(try k_lt l1);k_cells Y';(try simp only [List.cons_append,List.nil_append] at N');(try dsimp only);(try k_lift B');(try k_fold))
  (try (rename Fr _ _ _ _=>Fm9;replace Fm9 : Fr _ _ _ (fun y=>List.lookup y [(Str.ofString "value",.int v tv)]) := Fm9))
  k_steps
  all_goals (first | (refine' cb_retS hret ?e1 ?e2 ?e3;(case e2=>k_asm);(case e3=>first | k_asm | (refine' cb_drop ?cbN ?cbS;(case cbN=>assumption);(case cbS=>kcj_all)));(case e1=>exact rfl)))
end
section
section
variable {prog : Program} {w : World} {A : Around} {E : Value → Shared → Prop} {s : Shared} {env : Env} {h₀ : Heap}
inductive ForRng (prog : Program) (w : World) (A : Around) (h₀ : Heap) (env : Env) (target : Expr) (body : List Stmt) (Q : Flow → Shared → Prop) (E : Value → Shared → Prop) (xv : Value) (s₁ : Shared) : Prop
  | mk' (n : Nat) (m₀ : Str → Option Value) (news : List (Addr × Obj)) (J : Nat → (Str → Option Value) → List (Addr × Obj) → Prop) (h0 : (∃ r t u v,xv = .ref r ∧ IsRange s₁.heap r 0 (n : Int) 1 t u v)) (h1 : A.handled = none) (h2 : n ≤ 1000) (h3 : Fr h₀ env.locals s₁.heap m₀) (h4 : News h₀ env.locals s₁.heap news) (h5 : J 0 m₀ news) (h6 : (∀ i t m₁ n₁ h₁ tk₁ I oI,i < n → J i m₁ n₁ → Fr h₀ env.locals h₁ m₁ → News h₀ env.locals h₁ ((I,oI) :: n₁) → (∀ p ∈ n₁,p.1 ≠ I) → wpAny (model prog w) A (assign target env (.int (i : Int) t)) (fun _ s₂=>wpAny (model prog w) A (execs body env) (StepE h₀ env.locals { s₁ with heap := h₁,toks := tk₁ } I oI (J (i + 1)) Q) E s₂) E { s₁ with heap := h₁,toks := tk₁ })) (h7 : (∀ h' tk m' n',Fr h₀ env.locals h' m' → News h₀ env.locals h' n' → J n m' n' → Q .next { s₁ with heap := h',toks := tk })) : ForRng prog w A h₀ env target body Q E xv s₁
theorem for_rng {x : Str} {px pos : Pos} {iter : Expr} {body : List Stmt} {Q : Flow → Shared → Prop} {m : Str → Option Value} (F₀ : Fr h₀ env.locals s.heap m)
    (h : wpAny (model prog w) A (eval iter env) (ForRng prog w A h₀ env (.Name x px) body Q E) E s)
    (hs : ∀ x,foldedSetIterable iter env x = pure x := by intro _;rfl) (hE : PassesOwn (model prog w) A env E := by passes_own) :
    wpAny (model prog w) A (exec (.For (.Name x px) iter body [] pos) env) Q E s := by
  refine For_turns F₀ (wpAny_mono h (fun xv s₁ h₁=>?_) fun _ _ e=>e) hs hE
  obtain ⟨n,m₀,news,J,⟨r,t,u,v,rfl,hr⟩,hh,hn,F,N,h0,step,fin⟩ := h₁
  refine wpAny_pyIter_range hr (small_one (by omega) (by omega) (by omega) (by omega)) ?_
  have hI₀ : h₀.get? s₁.heap.objs.size = none := next_is_new F
  have hsz : Builtin.Range.rangeSize 0 (n : Int) 1 = (n : Int) := by rw [rangeSize_one];split <;> omega
  refine ⟨s₁.heap.objs.size,_,_,n,_,_,_,m₀,news,J,rfl,KTurns.ofWalks (Walks.range hh s₁.heap.objs.size 0 1 n) (fun i v s Q E st q=>wpAny_pure q),?_,?_,?_,?_,F.push _,fun p hp=>⟨Heap.get?_push_of_some _ (N p hp).1,(N p hp).2⟩,h0,?_,?_⟩
  · intro hI
    exact absurd F.ns.lt ((List.mem_singleton.mp hI) ▸ Nat.lt_irrefl _)
  · intro b hb
    rw [List.mem_singleton.mp hb];exact hI₀
  · intro p hp hb
    have := Heap.lt_size (N p hp).1
    rw [List.mem_singleton.mp hb] at this
    exact Nat.lt_irrefl _ this
  · rw [hsz]
    simpa using Heap.get?_push_size _ rfl
  · rintro i v m₁ news₁ h₁ tk₁ own hi ⟨t,rfl⟩ hJ hnw hsub hown hall st F₁ N₁
    obtain ⟨oI,hoI⟩ : ∃ oI : Obj,h₁.get? s₁.heap.objs.size = some oI := ⟨_,st⟩
    have hIin : (s₁.heap.objs.size,oI) ∈ own := hall _ (List.mem_cons_self ..) hI₀ oI hoI
    have N₂ : News h₀ env.locals h₁ ((s₁.heap.objs.size,oI) :: news₁) := fun p hp=>by
      rcases List.mem_cons.mp hp with rfl | hp
      · exact N₁ _ (List.mem_append_left _ hIin)
      · exact N₁ _ (List.mem_append_right _ hp)
    have hnI : ∀ p ∈ news₁,p.1 ≠ s₁.heap.objs.size := fun p hp e=>hnw p hp (by rw [e];exact List.mem_singleton.mpr rfl)
    rw [show (0 : Int) + (i : Int) * 1 = (i : Int) by omega]
    refine wpAny_mono (step i t m₁ news₁ h₁ tk₁ _ oI hi hJ F₁ N₂ hnI) (fun _ s₂ h₂=>wpAny_mono h₂ (fun f s₃ h₃=>?_) fun _ _ e=>e) fun _ _ e=>e
    have up : (∃ h tk m n,s₃ = { s₁ with heap := h,toks := tk } ∧ Fr h₀ env.locals h m ∧ News h₀ env.locals h ((s₁.heap.objs.size,oI) :: n) ∧ (∀ p ∈ n,p.1 ≠ s₁.heap.objs.size) ∧ J (i + 1) m n) →
        ∃ h tk m n,s₃ = { s₁ with heap := h,toks := tk } ∧ Fr h₀ env.locals h m ∧ News h₀ env.locals h (own ++ n) ∧ (∀ p ∈ n,p.1 ∉ [s₁.heap.objs.size]) ∧ J (i + 1) m n := by
      rintro ⟨h,tk,m,n,rfl,F₃,N₃,ha,hj⟩
      refine ⟨h,tk,m,n,rfl,F₃,fun p hp=>?_,fun p hp hb=>ha p hp (List.mem_singleton.mp hb),hj⟩
      rcases List.mem_append.mp hp with hp | hp
      · have h1 := hown p hp
        have e := List.mem_singleton.mp (hsub p hp)
        have e2 : p = (s₁.heap.objs.size,oI) := by
          rw [e,hoI] at h1
          exact Prod.ext e (Option.some.inj h1).symm
        rw [e2];exact N₃ _ (List.mem_cons_self ..)
      · exact N₃ _ (List.mem_cons_of_mem _ hp)
    cases f with
    | ret v=>exact LoopStepV.ret h₃
    | brk=>exact LoopStepV.brk h₃
    | cont=>exact LoopStepV.cont ⟨rfl,up h₃⟩
    | next=>exact LoopStepV.next ⟨rfl,up h₃⟩
  · intro h' tk m' news' F' N' _ hJ
    exact fin h' tk m' news' F' N' hJ
end
end
theorem jd_on : True := by
  k_with_none
  k_with "bn" => first
    | exact Bn.add
    | exact Bn.sub
    | (apply Bn.mulR;decide +kernel)
    | (apply Bn.mulL;decide +kernel)
    | (apply Bn.div;decide +kernel)
    | (apply Bn.mod;decide +kernel)
    | (apply Bn.pow;decide +kernel)
    | (apply Bn.shr;decide +kernel)
    | exact Bn.and
    | exact Bn.or
  k_with "gl" => first
    | with_reducible exact gl_BRANCHES _
    | with_reducible exact gl_FETCHES _
    | with_reducible exact gl_WITH_FIGURES _
    | with_reducible exact gl_WITH_CELLS _
    | with_reducible exact gl_TIMES _
  k_with "ws" => first
    | exact Ws.nil
    | (apply Ws.cons;k_extra "ws")
  k_with "pr" => first
    | exact Pr.nil
    | (apply Pr.cons;(intro _;k_extra "ev");k_extra "pr")
  k_with "ev" => first
    | exact Ev.int
    | exact Ev.str
    | exact Ev.bool
    | (apply Ev.loc;rfl;rfl)
    | (apply Ev.glo;rfl;k_extra "gl")
    | (apply Ev.neg;k_extra "ev")
    | (apply Ev.bin;k_extra "ev";k_extra "ev";k_extra "bn")
    | (apply Ev.cell;k_extra "ev";rfl;rfl;exact fun _=>rfl)
    | (apply Ev.num;k_extra "ev";(first | assumption | omega);rfl;rfl;exact fun _=>rfl)
    | (apply Ev.last;k_extra "ev";(first | assumption | k_mem);rfl;exact ⟨fun _ _ _=>by with_unfolding_all rfl,fun _ _=>by with_unfolding_all rfl⟩)
    | (apply Ev.item;k_extra "ev";k_extra "ev";(first | assumption | k_mem);decide;rfl;exact ⟨fun _ _ _=>by with_unfolding_all rfl,fun _ _=>by with_unfolding_all rfl⟩)
    | (apply Ev.len;k_extra "ev";(first | assumption | k_mem);(first | assumption | rfl);(first | rfl | decide);rfl;exact gl_len _;exact fun _=>rfl)
    | (apply Ev.idxK;k_extra "ev";k_extra "ev";(first | exact br_at | exact fe_at | exact wf_at | exact wc_at | exact ti_at);assumption;exact fun _=>rfl;exact ⟨_,fun _=>rfl⟩)
    | (apply Ev.idxW;k_extra "ws";(intro _;k_extra "ev");assumption;decide;exact fun _=>rfl;exact ⟨_,fun _=>rfl⟩)
    | (apply Ev.dget;k_extra "pr";(intro _;k_extra "ev");(intro _;k_extra "ev");rfl;decide +kernel;exact fun _=>rfl;exact fun _=>rfl;exact ⟨_,fun _=>rfl⟩)
    | (apply Ev.ditem;k_extra "pr";(intro _;k_extra "ev");rfl;decide +kernel;exact fun _ _ _=>by with_unfolding_all rfl)
    | (apply Ev.slT;k_extra "ev";k_extra "ev";omega;exact ⟨fun _ _ _=>by with_unfolding_all rfl,fun _ _ _=>by with_unfolding_all rfl⟩)
    | (apply Ev.slF;k_extra "ev";k_extra "ev";omega;exact ⟨fun _ _ _=>by with_unfolding_all rfl,fun _ _ _=>by with_unfolding_all rfl⟩)
  k_with "cm" => first
    | exact Cm.lt
    | exact Cm.le
    | exact Cm.eqI
    | exact Cm.eqS
    | exact Cm.neS
    | (apply Cm.inK;(first | exact br_at | exact fe_at | exact wf_at | exact wc_at | exact ti_at))
  k_with "te" => first
    | (apply Te.inW;k_extra "ev";k_extra "ws";decide;rfl)
    | (apply Te.cmp;k_extra "ev";k_extra "ev";k_extra "cm";rfl)
    | (apply Te.chain;k_extra "ev";k_extra "ev";k_extra "cm";k_extra "ev";k_extra "cm";rfl)
    | (apply Te.and2;k_extra "te";(intro _;k_extra "te"))
    | (apply Te.and3;k_extra "te";(intro _;k_extra "te");(intro _ _;k_extra "te"))
    | (apply Te.and4;k_extra "te";(intro _;k_extra "te");(intro _ _;k_extra "te");(intro _ _ _;k_extra "te"))
    | (apply Te.or2;k_extra "te";(intro _;k_extra "te"))
    | (apply Te.or3;k_extra "te";(intro _;k_extra "te");(intro _ _;k_extra "te"))
    | (apply Te.not;k_extra "te")
  k_with "ex1" => first
    | (apply Ex.ret;apply Ev.conv;k_extra "ev";rfl)
    | (apply Ex.asg2;k_extra "ev";k_extra "ev";rotate_left 1;rfl;rfl;(exact fun _=>rfl);(exact fun _=>rfl);(exact fun _=>rfl);(rintro ⟨⟩ h;dsimp only at h;subst h;rfl))
    | (apply Ex.asg3;k_extra "ev";k_extra "ev";k_extra "ev";rotate_left 1;rfl;(exact fun _=>rfl);(exact fun _=>rfl);(exact fun _=>rfl);(exact fun _=>rfl);(rintro ⟨⟩ h;dsimp only at h;subst h;rfl))
    | (apply Ex.asg;k_extra "ev";rotate_left 1;rfl;(exact fun _ _=>rfl))
  trivial
section
open PySem.Calls
noncomputable def gint (P : Params) (x : Str) (n : Int) : Bool := match nsIn (hd.heap_39 P) mainGlobals x with
  | some (some (.int k _))=>k == n
  | _=>false
theorem gint_of {P : Params} {x : Str} {n : Int} (h : gint P x n = true) : ∃ t,nsIn (hd.heap_39 P) mainGlobals x = some (some (.int n t)) := by
  unfold gint at h
  split at h
  · rename_i k t e
    exact ⟨t,by rw [e,eq_of_beq h]⟩
  · cases h
theorem gi_LUI (P : Params) : gint P (Str.ofString "LUI") 55 = true := by kernel_rfl
theorem gi_AUIPC (P : Params) : gint P (Str.ofString "AUIPC") 23 = true := by kernel_rfl
theorem gi_JAL (P : Params) : gint P (Str.ofString "JAL") 111 = true := by kernel_rfl
theorem gi_SYSTEM (P : Params) : gint P (Str.ofString "SYSTEM") 115 = true := by kernel_rfl
theorem gi_FENCE (P : Params) : gint P (Str.ofString "FENCE") 15 = true := by kernel_rfl
theorem gi_WITH_REG (P : Params) : gint P (Str.ofString "WITH_REG") 51 = true := by kernel_rfl
theorem gi_WITH_IMM (P : Params) : gint P (Str.ofString "WITH_IMM") 19 = true := by kernel_rfl
theorem gl_NBB (P : Params) : nsIn (hd.heap_39 P) mainGlobals (Str.ofString "NAMES_BY_BASE") = some (some (.ref 120)) := by kernel_rfl
section
variable {g : G}
theorem Ev.gloI {x : Str} {pos : Pos} {n : Int} (hk : (g.f.cs.names.lookup x == some .globalImplicit && !(x == ("__debug__" : Str))) = true) (h : gint g.w.params x n = true) : Ev g (.Name x pos) (.i n) := .mk fun c m s Q E o hl F N hQ =>
  let ⟨t,ht⟩ := gint_of h
  (Ev.glo hk ht).run c m s Q E o hl F N fun x h' tk' e F' N'=>hQ x h' tk' ⟨t,e⟩ F' N'
theorem Ev.nbbGet {o e : Expr} {ap pos q1 : Pos} {kk : Nat} {i : Int} (ho : Ev g o (.v (.ref 120))) (h1 : Ev g e (.i i)) (hs : ∀ env,starEach [e,.Constant (.str (Str.ofString "")) kk q1] env = [(false,eval e env),(false,eval (.Constant (.str (Str.ofString "")) kk q1) env)]) (hs2 : ∀ env,starEach [.Constant (.str (Str.ofString "")) kk q1] env = [(false,eval (.Constant (.str (Str.ofString "")) kk q1) env)]) (hm : Mc o "get" ap [e,.Constant (.str (Str.ofString "")) kk q1] pos) :
    Ev g (.Call (.Attribute o "get" ap) [e,.Constant (.str (Str.ofString "")) kk q1] [] pos) (.s (nbb i)) := .mk fun c m s Q E ok hl F N hQ =>
  let ⟨pl,hpl⟩ := hm
  MethodCall_ (ho.run c m s _ E ok hl F N fun y h' tk' e0 F' N'=>(show y = .ref 120 from e0) ▸ nbb_meth F' ok.X (callWith_method1 (args_cons (h1.run c m { s with heap := h',toks := tk' } _ E ok hl F' N' fun _ h2' tk2 ⟨t,e1⟩ F2 N2=>e1 ▸
    args_cons (Constant_str (args_nil (nbb_get F2 ok.X fun t'=>hQ _ h2' _ ⟨t',rfl⟩ F2 N2))) (by rw [hs2];rfl)) (by rw [hs,hs2])) (by rw [hs,hs2]) (by rw [hs2];rfl))) (hpl _)
theorem Ev.nbbItem {o e : Expr} {pos : Pos} {i : Int} (ho : Ev g o (.v (.ref 120))) (h1 : Ev g e (.i i)) (hi : ([55,23,111].any fun x=>x == i) = true) (hs : SubI o e) : Ev g (.Subscript o e pos) (.s (nbb i)) := .mk fun c m s Q E ok hl F N hQ =>
  Subscript_ (ho.run c m s _ E ok hl F N fun y h' tk' e0 F' N'=>(show y = .ref 120 from e0) ▸ h1.run c m { s with heap := h',toks := tk' } _ E ok hl F' N' fun _ h2' tk2 ⟨u,e2⟩ F2 N2=>e2 ▸ nbb_item F2 ok.X hi (fun t'=>hQ _ h2' _ ⟨t',rfl⟩ F2 N2) (hs.1 _ _ _) (hs.2 _))
end
theorem condI {b : Bool} {d : Prop} [Decidable d] {α : Type} {x x' y y' : α} (h : b = true ↔ d) (e1 : x = x') (e2 : y = y') : (bif b then x else y) = if d then x' else y' := by
  by_cases q : d
  · rw [if_pos q,h.mpr q];exact e1
  · rw [if_neg q,show b = false from Bool.eq_false_iff.mpr fun r=>q (h.mp r)];exact e2
theorem condN {p l : Int} {H L : Str} : (bif (p == 51) || ((p == 19) && ([1,5].any fun y=>y == l)) then H else L) = if p = 51 then H else if p = 19 then (if l = 1 ∨ l = 5 then H else L) else L := by
  by_cases a : p = 51
  · subst a;rfl
  · by_cases b : p = 19
    · subst b
      show (bif ([1,5].any fun y=>y == l) then H else L) = if l = 1 ∨ l = 5 then H else L
      exact condI (by simp only [List.any_cons,List.any_nil,Bool.or_false,Bool.or_eq_true,beq_iff_eq,@eq_comm Int 1,@eq_comm Int 5]) rfl rfl
    · rw [beq_false_of_ne a,beq_false_of_ne b,if_neg a,if_neg b];rfl
theorem nameB_eq (v : Int) (h : 0 ≤ v ∧ v < 2 ^ 32) : (bif [55,23,111].any fun y=>y == Builtin.bitAnd v 127 then nbb (Builtin.bitAnd v 127)
      else
        bif Builtin.bitAnd v 127 == 115 then nbb v
        else
          bif Builtin.bitAnd v 127 == 15 then
            bif Builtin.bitAnd v 4027580415 == 15 then Str.ofString "fence" else Str.ofString ""
          else
            bif
                Builtin.bitAnd v 127 == 51 ||
                  Builtin.bitAnd v 127 == 19 &&
                    [1,5].any fun y=>y == Builtin.bitAnd (v.fdiv (2 ^ Int.toNat 12)) 7 then
              nbb (Builtin.bitAnd v 4261441663)
            else nbb (Builtin.bitAnd v 28799)) = nameF v := by
  unfold nameF
  rw [mask_low v h.1,mask_high v h,mask_fence v h,fd,bitAnd_m7,bitAnd_m3,condN]
  refine condI (by simp only [List.any_cons,List.any_nil,Bool.or_false,Bool.or_eq_true,beq_iff_eq,@eq_comm Int 55,@eq_comm Int 23,@eq_comm Int 111]) rfl (condI beq_iff_eq rfl (condI beq_iff_eq (condI ?_ rfl rfl) rfl))
  rw [beq_iff_eq]
  have h0 := Int.emod_nonneg v (b := 2 ^ 20) (by decide)
  have h1 := Int.emod_lt_of_pos v (b := 2 ^ 20) (by decide)
  have h2 : 0 ≤ v / 2 ^ 28 := Int.ediv_nonneg h.1 (by decide)
  clear h
  generalize v % 2 ^ 20 = a at *
  generalize v / 2 ^ 28 = b at *
  omega
theorem jd_onN : True := by
  k_with "we" => first
    | exact We.nil
    | (apply We.cons;k_extra "ev";k_extra "we";exact fun _=>rfl)
  k_with "ev" => first
    | (apply Ev.gloI;rfl;(first | exact gi_LUI _ | exact gi_AUIPC _ | exact gi_JAL _ | exact gi_SYSTEM _ | exact gi_FENCE _ | exact gi_WITH_REG _ | exact gi_WITH_IMM _))
    | (apply Ev.nbbGet;(apply Ev.glo;rfl;exact gl_NBB _);k_extra "ev";exact fun _=>rfl;exact fun _=>rfl;exact ⟨_,fun _=>rfl⟩)
    | (apply Ev.nbbItem;(apply Ev.glo;rfl;exact gl_NBB _);k_extra "ev";assumption;exact ⟨fun _ _ _=>by with_unfolding_all rfl,fun _ _=>by with_unfolding_all rfl⟩)
    | (apply Ev.ifS;k_extra "te";k_extra "ev";k_extra "ev")
  k_with "te" => first
    | (apply Te.inWi;k_extra "ev";k_extra "we";decide;rfl)
  trivial
theorem c_name {w : World} {mean : ExcName → Option Value} {mg mb : Str → Option Value} {news : List (Addr × Obj)} (v : Int) (tv : Tok) :
    Cb w mean mg mb 322 1 news (0 ≤ v ∧ v < 2 ^ 32) [.int v tv] (fun t=>.str (nameF v) t) := by
  dsimp only [Cb]
  k_fill
  refine Cp.toS fun hpre=>?_
  skip
  refine enter (D := 0) (binds := [(Str.ofString "word",.int v tv)]) (ρ := [(Str.ofString "word",.i v)]) (by k_is) (by k_is) (fun _=>BindsTo.of_eq rfl) (by rfl) (show Lg _ [(Str.ofString "word",.int v tv)] from (.cons (by first | exact rfl | exact ⟨_,rfl⟩) .nil)) rfl rfl rfl (by decide) ?_
  apply Ex.conv;(case h=>(k_extra "ex1";apply Ex.iteS;k_extra "te";(intro hq9;k_extra "ex1");intro hr9;apply Ex.iteS;k_extra "te";(intro hq9;k_extra "ex1");intro hr9;apply Ex.iteS;k_extra "te";(intro hq9;k_extra "ex1");intro hr9;apply Ex.iteS;k_extra "te";(intro hq9;k_extra "ex1");intro hr9;k_extra "ex1"));exact congrArg PV.s (nameB_eq v hpre)
end
section
variable {w : World} {mean : ExcName → Option Value} {mg mb : Str → Option Value} {news : List (Addr × Obj)}
open PyProof.Rows.KTD
theorem gl_INS (P : Params) : nsIn (hd.heap_39 P) mainGlobals (Str.ofString "INSTRUCTIONS") = some (some (.ref 16)) := by kernel_rfl
theorem gl_register (P : Params) : nsIn (hd.heap_39 P) mainGlobals (Str.ofString "register") = some (some (.ref 351)) := by kernel_rfl
theorem kp_register (P : Params) : keepIn (hd.heap_39 P) (.ref 351) = true := by kernel_rfl
theorem gl_place (P : Params) : nsIn (hd.heap_39 P) mainGlobals (Str.ofString "is_with_place") = some (some (.ref 358)) := by kernel_rfl
theorem kp_place (P : Params) : keepIn (hd.heap_39 P) (.ref 358) = true := by kernel_rfl
theorem gl_fset (P : Params) : nsIn (hd.heap_39 P) mainGlobals (Str.ofString "fence_set") = some (some (.ref 344)) := by kernel_rfl
theorem kp_fset (P : Params) : keepIn (hd.heap_39 P) (.ref 344) = true := by kernel_rfl
theorem gl_str (P : Params) : nsIn (hd.heap_39 P) mainGlobals ("str" : Str) = some none := by kernel_rfl
theorem jd_onP : True := by
  k_with "ev" => first
    | (apply Ev.field;k_extra "ev";(first | assumption | k_mem);assumption;rfl;exact ⟨fun _ _ _=>by with_unfolding_all rfl,fun _ _=>by with_unfolding_all rfl⟩)
    | (apply Ev.strI;k_extra "ev";(split <;> omega);rfl;exact gl_str _;exact fun _=>rfl)
    | (refine' Ev.call2 (D := 10) ?zf ?za ?zb ?zc ?zd ?zs ?zt ?zk;(case zf=>(apply Ev.glo;rfl;exact gl_register _));(case za=>k_extra "ev");(case zb=>k_extra "ev");(case zd=>rfl);(case zs=>exact fun _=>rfl);(case zt=>exact fun _=>rfl);(case zk=>exact kp_register _);(case zc=>(rintro _ _ e8 ⟨t9,rfl⟩;cases e8;exact Cp.ofS (c_reg _ _ _ t9 _ _ _) ⟨⟨(by assumption),(by assumption),rfl⟩,fld_range _ _⟩)))
    | (refine' Ev.call1 (D := 10) ?zf ?za ?zc ?zd ?zs ?zk;(case zf=>(apply Ev.glo;rfl;exact gl_fset _));(case za=>k_extra "ev");(case zd=>rfl);(case zs=>exact fun _=>rfl);(case zk=>exact kp_fset _);(case zc=>(rintro _ ⟨t9,rfl⟩;exact Cp.ofS (c_fset _ t9) (by first | exact immF_high _ | exact immF_low _))))
    | (apply Ev.ifS;k_extra "te";k_extra "ev";k_extra "ev")
  k_with "bn" => first
    | (apply Bn.addB;(repeat (first | with_reducible exact regF_len _ | with_reducible exact int_len (by assumption) (by assumption) | with_reducible apply app_len | exact Nat.le_refl _));(repeat (first | with_reducible exact regF_len _ | with_reducible exact int_len (by assumption) (by assumption) | with_reducible apply app_len | exact Nat.le_refl _));decide)
  k_with "sx" => first
    | exact Sx.nil
    | (apply Sx.cons;k_extra "ev";k_extra "sx";exact fun _=>rfl)
  k_with "fo" => (apply El.asg;(apply Ev.form;(apply Ev.glo;rfl;exact gl_INS _);k_extra "ev";exact ins_name _ hn;exact hf;exact ⟨fun _ _ _=>by with_unfolding_all rfl,fun _ _=>by with_unfolding_all rfl⟩;(exact fun _ _ _=>by with_unfolding_all rfl));rotate_left 1;rfl;(exact fun _ _=>rfl))
  k_with "plt" => (apply El.ifT;(apply Te.call;(refine' Ev.call1 (D := 10) ?zf ?za ?zc ?zd ?zs ?zk;(case zf=>(apply Ev.glo;rfl;exact gl_place _));(case za=>k_extra "ev");(case zd=>rfl);(case zs=>exact fun _=>rfl);(case zk=>exact kp_place _);(case zc=>(rintro _ ⟨t9,rfl⟩;exact Cp.ofB (c_place _ t9) trivial))));exact hp9)
  k_with "plf" => (apply El.ifF;(apply Te.call;(refine' Ev.call1 (D := 10) ?zf ?za ?zc ?zd ?zs ?zk;(case zf=>(apply Ev.glo;rfl;exact gl_place _));(case za=>k_extra "ev");(case zd=>rfl);(case zs=>exact fun _=>rfl);(case zk=>exact kp_place _);(case zc=>(rintro _ ⟨t9,rfl⟩;exact Cp.ofB (c_place _ t9) trivial))));exact hp9)
  k_with "lr" => (apply El.ret;k_extra "sx";exact Nat.le_of_ble_eq_true rfl)
  trivial
theorem c_opsR (v : Int) (d : Addr) (o : Obj) (l : List (Str × Value)) (tn : Tok) :
    CbK w mean mg mb 365 12 news ((0 ≤ v ∧ v < 2 ^ 32) ∧ nameF v ≠ Str.ofString "" ∧ formF (nameF v) = Str.ofString "R" ∧ (d,o) ∈ news ∧ o.IsDictOf (PySem.strKind PySem.Challenge.rw_nm0011_01.row.prog w) l ∧ kvR v l) [.str (nameF v) tn,.ref d] (OpsK news [regF (fldF v 7),regF (fldF v 15),regF (fldF v 20)]) := by
  dsimp only [CbK]
  k_fill
  refine enterL (D := 11) (binds := [(Str.ofString "name",.str (nameF v) tn),(Str.ofString "fields",.ref d)]) (ρ := [(Str.ofString "fields",.v (.ref d)),(Str.ofString "name",.s (nameF v))]) (by k_is) (by k_is) (fun _=>BindsTo.of_eq rfl) (by rfl) (show Lg _ [(Str.ofString "fields",.ref d),(Str.ofString "name",.str (nameF v) tn)] from .cons (by first | exact rfl | exact ⟨_,rfl⟩) (.cons (by first | exact rfl | exact ⟨_,rfl⟩) .nil)) rfl rfl rfl (by decide) ?_
  rintro ⟨hv,hn,hf,hm9,hd9,⟨t0,t1,t2,rfl⟩⟩
  have hp9 : placeF (nameF v) = false := place_of _ _ (ins_name _ hn) hf (by decide)
  k_extra "fo"
  k_extra "plf"
  (apply El.ifT;k_extra "te";(rfl))
  k_extra "lr"
theorem c_opsI1 (v : Int) (d : Addr) (o : Obj) (l : List (Str × Value)) (tn : Tok) :
    CbK w mean mg mb 365 12 news ((0 ≤ v ∧ v < 2 ^ 32) ∧ nameF v ≠ Str.ofString "" ∧ formF (nameF v) = Str.ofString "I" ∧ (d,o) ∈ news ∧ o.IsDictOf (PySem.strKind PySem.Challenge.rw_nm0011_01.row.prog w) l ∧ kvI v l ∧ placeF (nameF v) = false) [.str (nameF v) tn,.ref d] (OpsK news [regF (fldF v 7),regF (fldF v 15),Str.ofString (toString (immI v))]) := by
  dsimp only [CbK]
  k_fill
  refine enterL (D := 11) (binds := [(Str.ofString "name",.str (nameF v) tn),(Str.ofString "fields",.ref d)]) (ρ := [(Str.ofString "fields",.v (.ref d)),(Str.ofString "name",.s (nameF v))]) (by k_is) (by k_is) (fun _=>BindsTo.of_eq rfl) (by rfl) (show Lg _ [(Str.ofString "fields",.ref d),(Str.ofString "name",.str (nameF v) tn)] from .cons (by first | exact rfl | exact ⟨_,rfl⟩) (.cons (by first | exact rfl | exact ⟨_,rfl⟩) .nil)) rfl rfl rfl (by decide) ?_
  rintro ⟨hv,hn,hf,hm9,hd9,⟨t0,t1,t2,rfl⟩,hp9⟩
  have hi9 := immI_range v
  obtain ⟨hi8,hi7⟩ := hi9
  k_extra "fo"
  k_extra "plf"
  (apply El.ifF;k_extra "te";(rfl))
  (apply El.ifT;k_extra "te";(rfl))
  k_extra "lr"
theorem c_opsI0 (v : Int) (d : Addr) (o : Obj) (l : List (Str × Value)) (tn : Tok) :
    CbK w mean mg mb 365 12 news ((0 ≤ v ∧ v < 2 ^ 32) ∧ nameF v ≠ Str.ofString "" ∧ formF (nameF v) = Str.ofString "I" ∧ (d,o) ∈ news ∧ o.IsDictOf (PySem.strKind PySem.Challenge.rw_nm0011_01.row.prog w) l ∧ kvI v l ∧ placeF (nameF v) = true) [.str (nameF v) tn,.ref d] (OpsK news [regF (fldF v 7),Str.ofString (toString (immI v)) ++ Str.ofString "(" ++ regF (fldF v 15) ++ Str.ofString ")"]) := by
  dsimp only [CbK]
  k_fill
  refine enterL (D := 11) (binds := [(Str.ofString "name",.str (nameF v) tn),(Str.ofString "fields",.ref d)]) (ρ := [(Str.ofString "fields",.v (.ref d)),(Str.ofString "name",.s (nameF v))]) (by k_is) (by k_is) (fun _=>BindsTo.of_eq rfl) (by rfl) (show Lg _ [(Str.ofString "fields",.ref d),(Str.ofString "name",.str (nameF v) tn)] from .cons (by first | exact rfl | exact ⟨_,rfl⟩) (.cons (by first | exact rfl | exact ⟨_,rfl⟩) .nil)) rfl rfl rfl (by decide) ?_
  rintro ⟨hv,hn,hf,hm9,hd9,⟨t0,t1,t2,rfl⟩,hp9⟩
  have hi9 := immI_range v
  obtain ⟨hi8,hi7⟩ := hi9
  k_extra "fo"
  k_extra "plt"
  (apply El.asg;k_extra "ev";rotate_left 1;rfl;(exact fun _ _=>rfl))
  k_extra "lr"
theorem c_opsH (v : Int) (d : Addr) (o : Obj) (l : List (Str × Value)) (tn : Tok) :
    CbK w mean mg mb 365 12 news ((0 ≤ v ∧ v < 2 ^ 32) ∧ nameF v ≠ Str.ofString "" ∧ formF (nameF v) = Str.ofString "H" ∧ (d,o) ∈ news ∧ o.IsDictOf (PySem.strKind PySem.Challenge.rw_nm0011_01.row.prog w) l ∧ kvH v l) [.str (nameF v) tn,.ref d] (OpsK news [regF (fldF v 7),regF (fldF v 15),Str.ofString (toString (immH v))]) := by
  dsimp only [CbK]
  k_fill
  refine enterL (D := 11) (binds := [(Str.ofString "name",.str (nameF v) tn),(Str.ofString "fields",.ref d)]) (ρ := [(Str.ofString "fields",.v (.ref d)),(Str.ofString "name",.s (nameF v))]) (by k_is) (by k_is) (fun _=>BindsTo.of_eq rfl) (by rfl) (show Lg _ [(Str.ofString "fields",.ref d),(Str.ofString "name",.str (nameF v) tn)] from .cons (by first | exact rfl | exact ⟨_,rfl⟩) (.cons (by first | exact rfl | exact ⟨_,rfl⟩) .nil)) rfl rfl rfl (by decide) ?_
  rintro ⟨hv,hn,hf,hm9,hd9,⟨t0,t1,t2,rfl⟩⟩
  have hp9 : placeF (nameF v) = false := place_of _ _ (ins_name _ hn) hf (by decide)
  have hi9 := immH_range v
  obtain ⟨hi8,hi7⟩ := hi9
  k_extra "fo"
  k_extra "plf"
  (apply El.ifF;k_extra "te";(rfl))
  (apply El.ifT;k_extra "te";(rfl))
  k_extra "lr"
theorem c_opsS (v : Int) (d : Addr) (o : Obj) (l : List (Str × Value)) (tn : Tok) :
    CbK w mean mg mb 365 12 news ((0 ≤ v ∧ v < 2 ^ 32) ∧ nameF v ≠ Str.ofString "" ∧ formF (nameF v) = Str.ofString "S" ∧ (d,o) ∈ news ∧ o.IsDictOf (PySem.strKind PySem.Challenge.rw_nm0011_01.row.prog w) l ∧ kvS v l) [.str (nameF v) tn,.ref d] (OpsK news [regF (fldF v 20),Str.ofString (toString (immS v)) ++ Str.ofString "(" ++ regF (fldF v 15) ++ Str.ofString ")"]) := by
  dsimp only [CbK]
  k_fill
  refine enterL (D := 11) (binds := [(Str.ofString "name",.str (nameF v) tn),(Str.ofString "fields",.ref d)]) (ρ := [(Str.ofString "fields",.v (.ref d)),(Str.ofString "name",.s (nameF v))]) (by k_is) (by k_is) (fun _=>BindsTo.of_eq rfl) (by rfl) (show Lg _ [(Str.ofString "fields",.ref d),(Str.ofString "name",.str (nameF v) tn)] from .cons (by first | exact rfl | exact ⟨_,rfl⟩) (.cons (by first | exact rfl | exact ⟨_,rfl⟩) .nil)) rfl rfl rfl (by decide) ?_
  rintro ⟨hv,hn,hf,hm9,hd9,⟨t0,t1,t2,rfl⟩⟩
  have hp9 : placeF (nameF v) = true := place_of _ _ (ins_name _ hn) hf (by decide)
  have hi9 := immS_range v
  obtain ⟨hi8,hi7⟩ := hi9
  k_extra "fo"
  k_extra "plt"
  (apply El.asg;k_extra "ev";rotate_left 1;rfl;(exact fun _ _=>rfl))
  k_extra "lr"
theorem c_opsB (v : Int) (d : Addr) (o : Obj) (l : List (Str × Value)) (tn : Tok) :
    CbK w mean mg mb 365 12 news ((0 ≤ v ∧ v < 2 ^ 32) ∧ nameF v ≠ Str.ofString "" ∧ formF (nameF v) = Str.ofString "B" ∧ (d,o) ∈ news ∧ o.IsDictOf (PySem.strKind PySem.Challenge.rw_nm0011_01.row.prog w) l ∧ kvB v l) [.str (nameF v) tn,.ref d] (OpsK news [regF (fldF v 15),regF (fldF v 20),Str.ofString (toString (immB v))]) := by
  dsimp only [CbK]
  k_fill
  refine enterL (D := 11) (binds := [(Str.ofString "name",.str (nameF v) tn),(Str.ofString "fields",.ref d)]) (ρ := [(Str.ofString "fields",.v (.ref d)),(Str.ofString "name",.s (nameF v))]) (by k_is) (by k_is) (fun _=>BindsTo.of_eq rfl) (by rfl) (show Lg _ [(Str.ofString "fields",.ref d),(Str.ofString "name",.str (nameF v) tn)] from .cons (by first | exact rfl | exact ⟨_,rfl⟩) (.cons (by first | exact rfl | exact ⟨_,rfl⟩) .nil)) rfl rfl rfl (by decide) ?_
  rintro ⟨hv,hn,hf,hm9,hd9,⟨t0,t1,t2,rfl⟩⟩
  have hp9 : placeF (nameF v) = false := place_of _ _ (ins_name _ hn) hf (by decide)
  have hi9 := immB_range v
  obtain ⟨hi8,hi7⟩ := hi9
  k_extra "fo"
  k_extra "plf"
  (apply El.ifF;k_extra "te";(rfl))
  (apply El.ifF;k_extra "te";(rfl))
  (apply El.ifT;k_extra "te";(rfl))
  k_extra "lr"
theorem c_opsU (v : Int) (d : Addr) (o : Obj) (l : List (Str × Value)) (tn : Tok) :
    CbK w mean mg mb 365 12 news ((0 ≤ v ∧ v < 2 ^ 32) ∧ nameF v ≠ Str.ofString "" ∧ formF (nameF v) = Str.ofString "U" ∧ (d,o) ∈ news ∧ o.IsDictOf (PySem.strKind PySem.Challenge.rw_nm0011_01.row.prog w) l ∧ kvU v l) [.str (nameF v) tn,.ref d] (OpsK news [regF (fldF v 7),Str.ofString (toString (immU v))]) := by
  dsimp only [CbK]
  k_fill
  refine enterL (D := 11) (binds := [(Str.ofString "name",.str (nameF v) tn),(Str.ofString "fields",.ref d)]) (ρ := [(Str.ofString "fields",.v (.ref d)),(Str.ofString "name",.s (nameF v))]) (by k_is) (by k_is) (fun _=>BindsTo.of_eq rfl) (by rfl) (show Lg _ [(Str.ofString "fields",.ref d),(Str.ofString "name",.str (nameF v) tn)] from .cons (by first | exact rfl | exact ⟨_,rfl⟩) (.cons (by first | exact rfl | exact ⟨_,rfl⟩) .nil)) rfl rfl rfl (by decide) ?_
  rintro ⟨hv,hn,hf,hm9,hd9,⟨t0,t1,rfl⟩⟩
  have hp9 : placeF (nameF v) = false := place_of _ _ (ins_name _ hn) hf (by decide)
  have hi9 := immU_range v hv
  obtain ⟨hi8,hi7⟩ := hi9
  k_extra "fo"
  k_extra "plf"
  (apply El.ifF;k_extra "te";(rfl))
  (apply El.ifF;k_extra "te";(rfl))
  (apply El.ifF;k_extra "te";(rfl))
  (apply El.ifT;k_extra "te";(rfl))
  k_extra "lr"
theorem c_opsJ (v : Int) (d : Addr) (o : Obj) (l : List (Str × Value)) (tn : Tok) :
    CbK w mean mg mb 365 12 news ((0 ≤ v ∧ v < 2 ^ 32) ∧ nameF v ≠ Str.ofString "" ∧ formF (nameF v) = Str.ofString "J" ∧ (d,o) ∈ news ∧ o.IsDictOf (PySem.strKind PySem.Challenge.rw_nm0011_01.row.prog w) l ∧ kvJ v l) [.str (nameF v) tn,.ref d] (OpsK news [regF (fldF v 7),Str.ofString (toString (immJ v))]) := by
  dsimp only [CbK]
  k_fill
  refine enterL (D := 11) (binds := [(Str.ofString "name",.str (nameF v) tn),(Str.ofString "fields",.ref d)]) (ρ := [(Str.ofString "fields",.v (.ref d)),(Str.ofString "name",.s (nameF v))]) (by k_is) (by k_is) (fun _=>BindsTo.of_eq rfl) (by rfl) (show Lg _ [(Str.ofString "fields",.ref d),(Str.ofString "name",.str (nameF v) tn)] from .cons (by first | exact rfl | exact ⟨_,rfl⟩) (.cons (by first | exact rfl | exact ⟨_,rfl⟩) .nil)) rfl rfl rfl (by decide) ?_
  rintro ⟨hv,hn,hf,hm9,hd9,⟨t0,t1,rfl⟩⟩
  have hp9 : placeF (nameF v) = false := place_of _ _ (ins_name _ hn) hf (by decide)
  have hi9 := immJ_range v
  obtain ⟨hi8,hi7⟩ := hi9
  k_extra "fo"
  k_extra "plf"
  (apply El.ifF;k_extra "te";(rfl))
  (apply El.ifF;k_extra "te";(rfl))
  (apply El.ifF;k_extra "te";(rfl))
  (apply El.ifT;k_extra "te";(rfl))
  k_extra "lr"
theorem c_opsF (v : Int) (d : Addr) (o : Obj) (l : List (Str × Value)) (tn : Tok) :
    CbK w mean mg mb 365 12 news ((0 ≤ v ∧ v < 2 ^ 32) ∧ nameF v ≠ Str.ofString "" ∧ formF (nameF v) = Str.ofString "F" ∧ (d,o) ∈ news ∧ o.IsDictOf (PySem.strKind PySem.Challenge.rw_nm0011_01.row.prog w) l ∧ kvF v l) [.str (nameF v) tn,.ref d] (OpsK news [fsetF ((immF v).fdiv (2 ^ Int.toNat 4)),fsetF (Builtin.bitAnd (immF v) 15)]) := by
  dsimp only [CbK]
  k_fill
  refine enterL (D := 11) (binds := [(Str.ofString "name",.str (nameF v) tn),(Str.ofString "fields",.ref d)]) (ρ := [(Str.ofString "fields",.v (.ref d)),(Str.ofString "name",.s (nameF v))]) (by k_is) (by k_is) (fun _=>BindsTo.of_eq rfl) (by rfl) (show Lg _ [(Str.ofString "fields",.ref d),(Str.ofString "name",.str (nameF v) tn)] from .cons (by first | exact rfl | exact ⟨_,rfl⟩) (.cons (by first | exact rfl | exact ⟨_,rfl⟩) .nil)) rfl rfl rfl (by decide) ?_
  rintro ⟨hv,hn,hf,hm9,hd9,⟨t0,rfl⟩⟩
  have hp9 : placeF (nameF v) = false := place_of _ _ (ins_name _ hn) hf (by decide)
  have hi9 := immF_range v
  obtain ⟨hi8,hi7⟩ := hi9
  k_extra "fo"
  k_extra "plf"
  (apply El.ifF;k_extra "te";(rfl))
  (apply El.ifF;k_extra "te";(rfl))
  (apply El.ifF;k_extra "te";(rfl))
  (apply El.ifF;k_extra "te";(rfl))
  (apply El.ifT;k_extra "te";(rfl))
  k_extra "lr"
theorem c_opsE (v : Int) (d : Addr) (o : Obj) (l : List (Str × Value)) (tn : Tok) :
    CbK w mean mg mb 365 12 news ((0 ≤ v ∧ v < 2 ^ 32) ∧ nameF v ≠ Str.ofString "" ∧ formF (nameF v) = Str.ofString "E" ∧ (d,o) ∈ news ∧ o.IsDictOf (PySem.strKind PySem.Challenge.rw_nm0011_01.row.prog w) l ∧ kvE v l) [.str (nameF v) tn,.ref d] (OpsK news []) := by
  dsimp only [CbK]
  k_fill
  refine enterL (D := 11) (binds := [(Str.ofString "name",.str (nameF v) tn),(Str.ofString "fields",.ref d)]) (ρ := [(Str.ofString "fields",.v (.ref d)),(Str.ofString "name",.s (nameF v))]) (by k_is) (by k_is) (fun _=>BindsTo.of_eq rfl) (by rfl) (show Lg _ [(Str.ofString "fields",.ref d),(Str.ofString "name",.str (nameF v) tn)] from .cons (by first | exact rfl | exact ⟨_,rfl⟩) (.cons (by first | exact rfl | exact ⟨_,rfl⟩) .nil)) rfl rfl rfl (by decide) ?_
  rintro ⟨hv,hn,hf,hm9,hd9,rfl⟩
  have hp9 : placeF (nameF v) = false := place_of _ _ (ins_name _ hn) hf (by decide)
  k_extra "fo"
  k_extra "plf"
  (apply El.ifF;k_extra "te";(rfl))
  (apply El.ifF;k_extra "te";(rfl))
  (apply El.ifF;k_extra "te";(rfl))
  (apply El.ifF;k_extra "te";(rfl))
  (apply El.ifF;k_extra "te";(rfl))
  k_extra "lr"
end
section
variable {w : World} {mean : ExcName → Option Value} {mg mb : Str → Option Value} {news : List (Addr × Obj)}
theorem jd_onS : True := by
  k_with "bn" => first
    | (apply Bn.shl;decide +kernel;(first | exact ls_and _ _ (by decide) (by decide) | exact ls_fdiv _ _ (by assumption) | decide))
    | (apply Bn.shlS;assumption;decide)
    | (apply Bn.shrS;assumption)
  k_with "ev" => first
    | (apply Ev.ifI;k_extra "te";k_extra "ev";k_extra "ev")
  trivial
theorem gl_signed (P : Params) : nsIn (hd.heap_39 P) mainGlobals (Str.ofString "signed") = some (some (.ref 104)) := by kernel_rfl
theorem kp_signed (P : Params) : keepIn (hd.heap_39 P) (.ref 104) = true := by kernel_rfl
theorem c_signed (v : Int) (tv : Tok) (k : Int) (tk : Tok) :
    Cb w mean mg mb 104 1 news (1 ≤ k ∧ k ≤ 32) [.int v tv,.int k tk] (fun t=>.int (sgn v k.toNat) t) := by
  dsimp only [Cb]
  k_fill
  refine Cp.toI fun hpre=>?_
  have k1 : 0 ≤ k ∧ k ≤ 32 := by omega
  have k2 : 0 ≤ k - 1 := by omega
  refine enter (D := 0) (binds := [(Str.ofString "value",.int v tv),(Str.ofString "width",.int k tk)]) (ρ := [(Str.ofString "width",.i k),(Str.ofString "value",.i v)]) (by k_is) (by k_is) (fun _=>BindsTo.of_eq rfl) (by rfl) (show Lg _ [(Str.ofString "width",.int k tk),(Str.ofString "value",.int v tv)] from (.cons (by first | exact rfl | exact ⟨_,rfl⟩) (.cons (by first | exact rfl | exact ⟨_,rfl⟩) .nil))) rfl rfl rfl (by decide) ?_
  apply Ex.conv;(case h=>(k_extra "ex1";k_extra "ex1"));(refine congrArg PV.i ?_;generalize hq : (_ == (1 : Int)) = q;cases q;(exact signed_end2 hpre (ne_of_beq_false hq));(exact signed_end1 hpre (eq_of_beq hq)))
theorem Ev.sgn {g : G} {p pos : Pos} {e e2 : Expr} {v k : Int} (h1 : Ev g e (.i v)) (h2 : Ev g e2 (.i k)) (hk : decide (1 ≤ k ∧ k ≤ 32) = true) (hn : (g.f.cs.names.lookup (Str.ofString "signed") == some .globalImplicit && !(Str.ofString "signed" == ("__debug__" : Str))) = true) (hD : decide (1 ≤ g.D) = true) (hs : ∀ env,starEach [e,e2] env = [(false,eval e env),(false,eval e2 env)]) (hs2 : ∀ env,starEach [e2] env = [(false,eval e2 env)]) : Ev g (.Call (.Name (Str.ofString "signed") p) [e,e2] [] pos) (.i (Mine.sgn v k.toNat)) :=
  Ev.call2 (Ev.glo hn (gl_signed _)) h1 h2 (fun _ _ ⟨t,e⟩ ⟨u,e2⟩=>e ▸ e2 ▸ Cp.ofI (c_signed v t k u) (of_decide_eq_true hk)) hD hs hs2 (kp_signed _)
theorem jd_onI : True := by
  k_with "bn" => first
    | (apply Bn.shl;decide +kernel;(first | exact ls_and _ _ (by decide) (by decide) | exact ls_fdiv _ _ (by assumption) | decide))
    | (apply Bn.shlS;assumption;decide)
    | (apply Bn.shrS;assumption)
  k_with "ev" => first
    | (apply Ev.sgn;k_extra "ev";k_extra "ev";decide;rfl;rfl;exact fun _=>rfl;exact fun _=>rfl)
  trivial
theorem c_imm_I (v : Int) (tv : Tok) (tf : Tok) :
    Cb w mean mg mb 111 2 news (0 ≤ v ∧ v < 2 ^ 32) [.str (Str.ofString "I") tf,.int v tv] (fun t=>.int (immI v) t) := by
  dsimp only [Cb]
  k_fill
  refine Cp.toI fun hpre=>?_
  skip
  refine enter (D := 1) (binds := [(Str.ofString "form",.str (Str.ofString "I") tf),(Str.ofString "word",.int v tv)]) (ρ := [(Str.ofString "word",.i v),(Str.ofString "form",.s (Str.ofString "I"))]) (by k_is) (by k_is) (fun _=>BindsTo.of_eq rfl) (by rfl) (show Lg _ [(Str.ofString "word",.int v tv),(Str.ofString "form",.str (Str.ofString "I") tf)] from (.cons (by first | exact rfl | exact ⟨_,rfl⟩) (.cons (by first | exact rfl | exact ⟨_,rfl⟩) .nil))) rfl rfl rfl (by decide) ?_
  apply Ex.conv;(case h=>((apply Ex.ifT;k_extra "te";(rfl));k_extra "ex1"));exact congrArg PV.i (imm_endI _)
theorem c_imm_H (v : Int) (tv : Tok) (tf : Tok) :
    Cb w mean mg mb 111 2 news (0 ≤ v ∧ v < 2 ^ 32) [.str (Str.ofString "H") tf,.int v tv] (fun t=>.int (immH v) t) := by
  dsimp only [Cb]
  k_fill
  refine Cp.toI fun hpre=>?_
  skip
  refine enter (D := 1) (binds := [(Str.ofString "form",.str (Str.ofString "H") tf),(Str.ofString "word",.int v tv)]) (ρ := [(Str.ofString "word",.i v),(Str.ofString "form",.s (Str.ofString "H"))]) (by k_is) (by k_is) (fun _=>BindsTo.of_eq rfl) (by rfl) (show Lg _ [(Str.ofString "word",.int v tv),(Str.ofString "form",.str (Str.ofString "H") tf)] from (.cons (by first | exact rfl | exact ⟨_,rfl⟩) (.cons (by first | exact rfl | exact ⟨_,rfl⟩) .nil))) rfl rfl rfl (by decide) ?_
  apply Ex.conv;(case h=>((apply Ex.ifF;k_extra "te";(rfl));(apply Ex.ifT;k_extra "te";(rfl));k_extra "ex1"));exact congrArg PV.i (imm_endH _)
theorem c_imm_S (v : Int) (tv : Tok) (tf : Tok) :
    Cb w mean mg mb 111 2 news (0 ≤ v ∧ v < 2 ^ 32) [.str (Str.ofString "S") tf,.int v tv] (fun t=>.int (immS v) t) := by
  dsimp only [Cb]
  k_fill
  refine Cp.toI fun hpre=>?_
  skip
  refine enter (D := 1) (binds := [(Str.ofString "form",.str (Str.ofString "S") tf),(Str.ofString "word",.int v tv)]) (ρ := [(Str.ofString "word",.i v),(Str.ofString "form",.s (Str.ofString "S"))]) (by k_is) (by k_is) (fun _=>BindsTo.of_eq rfl) (by rfl) (show Lg _ [(Str.ofString "word",.int v tv),(Str.ofString "form",.str (Str.ofString "S") tf)] from (.cons (by first | exact rfl | exact ⟨_,rfl⟩) (.cons (by first | exact rfl | exact ⟨_,rfl⟩) .nil))) rfl rfl rfl (by decide) ?_
  apply Ex.conv;(case h=>((apply Ex.ifF;k_extra "te";(rfl));(apply Ex.ifF;k_extra "te";(rfl));(apply Ex.ifT;k_extra "te";(rfl));k_extra "ex1"));exact congrArg PV.i (imm_endS _ hpre)
theorem c_imm_B (v : Int) (tv : Tok) (tf : Tok) :
    Cb w mean mg mb 111 2 news (0 ≤ v ∧ v < 2 ^ 32) [.str (Str.ofString "B") tf,.int v tv] (fun t=>.int (immB v) t) := by
  dsimp only [Cb]
  k_fill
  refine Cp.toI fun hpre=>?_
  skip
  refine enter (D := 1) (binds := [(Str.ofString "form",.str (Str.ofString "B") tf),(Str.ofString "word",.int v tv)]) (ρ := [(Str.ofString "word",.i v),(Str.ofString "form",.s (Str.ofString "B"))]) (by k_is) (by k_is) (fun _=>BindsTo.of_eq rfl) (by rfl) (show Lg _ [(Str.ofString "word",.int v tv),(Str.ofString "form",.str (Str.ofString "B") tf)] from (.cons (by first | exact rfl | exact ⟨_,rfl⟩) (.cons (by first | exact rfl | exact ⟨_,rfl⟩) .nil))) rfl rfl rfl (by decide) ?_
  apply Ex.conv;(case h=>((apply Ex.ifF;k_extra "te";(rfl));(apply Ex.ifF;k_extra "te";(rfl));(apply Ex.ifF;k_extra "te";(rfl));(apply Ex.ifT;k_extra "te";(rfl));k_extra "ex1";k_extra "ex1"));exact congrArg PV.i (imm_endB _ hpre)
theorem c_imm_U (v : Int) (tv : Tok) (tf : Tok) :
    Cb w mean mg mb 111 2 news (0 ≤ v ∧ v < 2 ^ 32) [.str (Str.ofString "U") tf,.int v tv] (fun t=>.int (immU v) t) := by
  dsimp only [Cb]
  k_fill
  refine Cp.toI fun hpre=>?_
  skip
  refine enter (D := 1) (binds := [(Str.ofString "form",.str (Str.ofString "U") tf),(Str.ofString "word",.int v tv)]) (ρ := [(Str.ofString "word",.i v),(Str.ofString "form",.s (Str.ofString "U"))]) (by k_is) (by k_is) (fun _=>BindsTo.of_eq rfl) (by rfl) (show Lg _ [(Str.ofString "word",.int v tv),(Str.ofString "form",.str (Str.ofString "U") tf)] from (.cons (by first | exact rfl | exact ⟨_,rfl⟩) (.cons (by first | exact rfl | exact ⟨_,rfl⟩) .nil))) rfl rfl rfl (by decide) ?_
  apply Ex.conv;(case h=>((apply Ex.ifF;k_extra "te";(rfl));(apply Ex.ifF;k_extra "te";(rfl));(apply Ex.ifF;k_extra "te";(rfl));(apply Ex.ifF;k_extra "te";(rfl));(apply Ex.ifT;k_extra "te";(rfl));k_extra "ex1"));exact congrArg PV.i (imm_endU _)
theorem c_imm_J (v : Int) (tv : Tok) (tf : Tok) :
    Cb w mean mg mb 111 2 news (0 ≤ v ∧ v < 2 ^ 32) [.str (Str.ofString "J") tf,.int v tv] (fun t=>.int (immJ v) t) := by
  dsimp only [Cb]
  k_fill
  refine Cp.toI fun hpre=>?_
  skip
  refine enter (D := 1) (binds := [(Str.ofString "form",.str (Str.ofString "J") tf),(Str.ofString "word",.int v tv)]) (ρ := [(Str.ofString "word",.i v),(Str.ofString "form",.s (Str.ofString "J"))]) (by k_is) (by k_is) (fun _=>BindsTo.of_eq rfl) (by rfl) (show Lg _ [(Str.ofString "word",.int v tv),(Str.ofString "form",.str (Str.ofString "J") tf)] from (.cons (by first | exact rfl | exact ⟨_,rfl⟩) (.cons (by first | exact rfl | exact ⟨_,rfl⟩) .nil))) rfl rfl rfl (by decide) ?_
  apply Ex.conv;(case h=>((apply Ex.ifF;k_extra "te";(rfl));(apply Ex.ifF;k_extra "te";(rfl));(apply Ex.ifF;k_extra "te";(rfl));(apply Ex.ifF;k_extra "te";(rfl));(apply Ex.ifF;k_extra "te";(rfl));(apply Ex.ifT;k_extra "te";(rfl));k_extra "ex1";k_extra "ex1"));exact congrArg PV.i (imm_endJ _ hpre)
theorem c_imm_F (v : Int) (tv : Tok) (tf : Tok) :
    Cb w mean mg mb 111 2 news (0 ≤ v ∧ v < 2 ^ 32) [.str (Str.ofString "F") tf,.int v tv] (fun t=>.int (immF v) t) := by
  dsimp only [Cb]
  k_fill
  refine Cp.toI fun hpre=>?_
  skip
  refine enter (D := 1) (binds := [(Str.ofString "form",.str (Str.ofString "F") tf),(Str.ofString "word",.int v tv)]) (ρ := [(Str.ofString "word",.i v),(Str.ofString "form",.s (Str.ofString "F"))]) (by k_is) (by k_is) (fun _=>BindsTo.of_eq rfl) (by rfl) (show Lg _ [(Str.ofString "word",.int v tv),(Str.ofString "form",.str (Str.ofString "F") tf)] from (.cons (by first | exact rfl | exact ⟨_,rfl⟩) (.cons (by first | exact rfl | exact ⟨_,rfl⟩) .nil))) rfl rfl rfl (by decide) ?_
  apply Ex.conv;(case h=>((apply Ex.ifF;k_extra "te";(rfl));(apply Ex.ifF;k_extra "te";(rfl));(apply Ex.ifF;k_extra "te";(rfl));(apply Ex.ifF;k_extra "te";(rfl));(apply Ex.ifF;k_extra "te";(rfl));(apply Ex.ifF;k_extra "te";(rfl));k_extra "ex1"));exact congrArg PV.i (imm_endF _)
end
section
open PyProof.Rows.KTD PySem.Calls
noncomputable abbrev DecR (w : World) (news : List (Addr × Obj)) (n : Str) (KV : List (Str × Value) → Prop) (N' : List (Addr × Obj)) (x : Value) : Prop := ∃ T d o tn l,KV l ∧ o.IsDictOf (PySem.strKind PRG w) l ∧ (d == sysModules) = false ∧ N' = (T,{ cls := .type "tuple",data := .seq #[.str n tn,.ref d] }) :: (d,o) :: news ∧ x = .ref T
theorem enterX {w : World} {mean : ExcName → Option Value} {mg mb : Str → Option Value} {f : Addr} {D : Nat} {news : List (Addr × Obj)} {vs : List Value} {n : Str} {KV : List (Str × Value) → Prop} {pre : Prop} {name qual : Str} {params : Arguments} {body : List Stmt} {scope : Scope} {dV kV doc pm cdv ct oc : Value} {an od : Option Addr} {osl : Array (Option Value)} {binds : List (Str × Value)} {ρ : Lo}
    (ho : (hd.heap_39 w.params).lookup f = some ⟨oc,od,.func (fnOf name qual params body scope dV kV doc pm an cdv ct),osl⟩) (hcd : codeIn (hd.heap_39 w.params) cdv qual = true)
    (hbind : ∀ s,BindsTo s (fnOf name qual params body scope dV kV doc pm an cdv ct) ⟨vs,[]⟩ binds) (hloc : (binds.all fun x=>decide (scope.names.lookup x.1 = some .local)) = true) (hρ : Lg ρ binds.reverse)
    (hco : scope.isCoroutine = false) (hgen : scope.isGenerator = false) (hk : scope.kind = .function) (hcell : ∀ x ∈ scope.names,x.2 ≠ .cell)
    (h : pre → Xd ⟨w,mean,mg,mb,⟨qual,scope,f,cdv⟩,D,news,ρ⟩ body (DecR w news n KV)) : CbK w mean mg mb f (D + 1) news pre vs (DecK w news n KV) := by
  intro dp un gd cn cs a ccd cl outer A₀ base h₀ L m s Q E B F X N T hks hp hd hu hQ
  refine wpAny_call (code_def B F X N T rfl rfl hks ho hcd (by show dp < recursionLimit;omega) (hbind s) (locs hloc) (fun g L' h₁ FG F' N' B' X' T'=>?_) hco hgen hk hcell)
  refine (h hp).run ⟨dp + 1,un + 3,gd,[],envX cn cs L a ccd cl :: outer,ktrTop dp un gd cn cs L a ccd cl outer,base,g,L'⟩ _ { s with heap := h₁,toks := s.toks + binds.length } _ _
    ⟨B',X',T',hk,by show dp + 1 + D < recursionLimit;omega,by show un + 3 + 8 * D < cLine;omega⟩ hρ.locs F' N' PassesOwn.leaving fun x N2 h' tk' m' hx F'' N''=>?_
  obtain ⟨T,d,o,tn,l,h1,h2,h3,rfl,rfl⟩ := hx
  exact leaveK_ F'' N'' fun F3 N3=>hQ T d o tn l h' tk' h1 h2 h3 F3 N3
theorem gl_PLACES (P : Params) : nsIn (hd.heap_39 P) mainGlobals (Str.ofString "PLACES") = some (some (.ref 67)) := by kernel_rfl
theorem gl_BOUNDS (P : Params) : nsIn (hd.heap_39 P) mainGlobals (Str.ofString "BOUNDS") = some (some (.ref 90)) := by kernel_rfl
theorem gl_nameof (P : Params) : nsIn (hd.heap_39 P) mainGlobals (Str.ofString "name_of") = some (some (.ref 322)) := by kernel_rfl
theorem gl_immof (P : Params) : nsIn (hd.heap_39 P) mainGlobals (Str.ofString "imm_of") = some (some (.ref 111)) := by kernel_rfl
theorem kp_nameof (P : Params) : keepIn (hd.heap_39 P) (.ref 322) = true := by kernel_rfl
theorem kp_immof (P : Params) : keepIn (hd.heap_39 P) (.ref 111) = true := by kernel_rfl
theorem jd_onD : True := by
  k_with "ev" => first
    | (apply Ev.field;k_extra "ev";(first | assumption | k_mem);assumption;rfl;exact ⟨fun _ _ _=>by with_unfolding_all rfl,fun _ _=>by with_unfolding_all rfl⟩)
    | (apply Ev.strI;k_extra "ev";(split <;> omega);rfl;exact gl_str _;exact fun _=>rfl)
    | (refine' Ev.call2 (D := 10) ?zf ?za ?zb ?zc ?zd ?zs ?zt ?zk;(case zf=>(apply Ev.glo;rfl;exact gl_register _));(case za=>k_extra "ev");(case zb=>k_extra "ev");(case zd=>rfl);(case zs=>exact fun _=>rfl);(case zt=>exact fun _=>rfl);(case zk=>exact kp_register _);(case zc=>(rintro _ _ e8 ⟨t9,rfl⟩;cases e8;exact Cp.ofS (c_reg _ _ _ t9 _ _ _) ⟨⟨(by assumption),(by assumption),rfl⟩,fld_range _ _⟩)))
    | (refine' Ev.call1 (D := 10) ?zf ?za ?zc ?zd ?zs ?zk;(case zf=>(apply Ev.glo;rfl;exact gl_fset _));(case za=>k_extra "ev");(case zd=>rfl);(case zs=>exact fun _=>rfl);(case zk=>exact kp_fset _);(case zc=>(rintro _ ⟨t9,rfl⟩;exact Cp.ofS (c_fset _ t9) (by first | exact immF_high _ | exact immF_low _))))
    | (apply Ev.ifS;k_extra "te";k_extra "ev";k_extra "ev")
  k_with "bn" => first
    | (apply Bn.addB;(repeat (first | with_reducible exact regF_len _ | with_reducible exact int_len (by assumption) (by assumption) | with_reducible apply app_len | exact Nat.le_refl _));(repeat (first | with_reducible exact regF_len _ | with_reducible exact int_len (by assumption) (by assumption) | with_reducible apply app_len | exact Nat.le_refl _));decide)
  k_with "sx" => first
    | exact Sx.nil
    | (apply Sx.cons;k_extra "ev";k_extra "sx";exact fun _=>rfl)
  k_with "gb" => (apply Ev.glo;rfl;exact gl_BOUNDS _)
  k_with "gp" => (apply Ev.plc;(apply Ev.glo;rfl;exact gl_PLACES _);k_extra "ev";rfl;(exact fun _ _=>rfl))
  k_with "fm" => (apply Ev.form;(apply Ev.glo;rfl;exact gl_INS _);k_extra "ev";exact ins_name _ hn;exact fn9;exact ⟨fun _ _ _=>by with_unfolding_all rfl,fun _ _=>by with_unfolding_all rfl⟩;(exact fun _ _ _=>by with_unfolding_all rfl))
  trivial
theorem c_dec {w : World} {mean : ExcName → Option Value} {mg mb : Str → Option Value} {news : List (Addr × Obj)} (v : Int) (tv : Tok) :
    CbK w mean mg mb 329 12 news ((0 ≤ v ∧ v < 2 ^ 32) ∧ nameF v ≠ Str.ofString "") [.int v tv] (DecK w news (nameF v) (kvAll v)) := by
  dsimp only [CbK]
  k_fill
  refine enterX (D := 11) (binds := [(Str.ofString "word",.int v tv)]) (ρ := [(Str.ofString "word",.i v)]) (by k_is) (by k_is) (fun _=>BindsTo.of_eq rfl) (by rfl) (show Lg _ [(Str.ofString "word",.int v tv)] from .cons ⟨_,rfl⟩ .nil) rfl rfl rfl (by decide) ?_
  rintro ⟨hv,hn⟩
  refine Xd.asg (v := .s (nameF v)) (by (refine' Ev.call1 (D := 1) ?zf ?za ?zc ?zd ?zs ?zk;(case zf=>(apply Ev.glo;rfl;exact gl_nameof _));(case za=>k_extra "ev");(case zd=>rfl);(case zs=>exact fun _=>rfl);(case zk=>exact kp_nameof _);(case zc=>(rintro _ ⟨t9,rfl⟩;exact Cp.ofS (c_name _ _) hv)))) ?_ rfl (fun _ _=>rfl)
  refine Xd.ifF (b := nameF v == Str.ofString "") (by k_extra "te") (by simpa using hn) ?_
  rcases form_nine _ (ins_name _ hn) with fn9 | fn9 | fn9 | fn9 | fn9 | fn9 | fn9 | fn9 | fn9
  · refine Xd.asg (v := .s (Str.ofString "R")) (by k_extra "fm") ?_ rfl (fun _ _=>rfl)
    refine Xd.dict0 (fun d o lo hlt hD=>?_) rfl (fun _ _=>rfl)
    refine Xd.pairs (T := 71) (v := v) (l := [(Str.ofString "rd",(7 : Int)),(Str.ofString "rs1",(15 : Int)),(Str.ofString "rs2",(20 : Int))]) rfl (by k_extra "gp") hD hlt ⟨rfl,rfl,rfl⟩ (Prs.cons rfl rfl rfl (Prs.cons rfl rfl rfl (Prs.cons rfl rfl rfl Prs.nil))) rfl ⟨rfl,rfl,rfl,rfl⟩ (by decide) rfl rfl (fun _ _=>rfl) (fun _ _=>rfl) fun o9 kv9 hq9 hD9=>?_
    obtain ⟨t0,t1,t2,rfl⟩ := hq9
    refine Xd.ifF (Te.bnd (r := none) (by k_extra "ev") (by k_extra "gb") rfl rfl) rfl ?_
    refine Xd.pair (by k_extra "ev") (by k_extra "ev") fun T tn=>⟨T,d,o9,tn,_,.inl ⟨fn9,⟨_,_,_,rfl⟩⟩,hD9.is,lo,rfl,rfl⟩
  · refine Xd.asg (v := .s (Str.ofString "I")) (by k_extra "fm") ?_ rfl (fun _ _=>rfl)
    refine Xd.dict0 (fun d o lo hlt hD=>?_) rfl (fun _ _=>rfl)
    refine Xd.pairs (T := 74) (v := v) (l := [(Str.ofString "rd",(7 : Int)),(Str.ofString "rs1",(15 : Int))]) rfl (by k_extra "gp") hD hlt ⟨rfl,rfl,rfl⟩ (Prs.cons rfl rfl rfl (Prs.cons rfl rfl rfl Prs.nil)) rfl ⟨rfl,rfl,rfl,rfl⟩ (by decide) rfl rfl (fun _ _=>rfl) (fun _ _=>rfl) fun o9 kv9 hq9 hD9=>?_
    obtain ⟨t0,t1,rfl⟩ := hq9
    refine Xd.ifPut rfl (Te.bnd (r := some _) (by k_extra "ev") (by k_extra "gb") rfl rfl) rfl hlt hD9 (n := immI v) (by (refine' Ev.call2 (D := 2) ?zf ?za ?zb ?zc ?zd ?zs ?zt ?zk;(case zf=>(apply Ev.glo;rfl;exact gl_immof _));(case za=>k_extra "ev");(case zb=>k_extra "ev");(case zd=>rfl);(case zs=>exact fun _=>rfl);(case zt=>exact fun _=>rfl);(case zk=>exact kp_immof _);(case zc=>(rintro _ _ ⟨t8,rfl⟩ ⟨t9,rfl⟩;exact Cp.ofI (c_imm_I _ _ _) hv)))) (by k_extra "ev") (fun _ _=>rfl) fun o8 tv8 hD8=>?_
    refine Xd.pair (by k_extra "ev") (by k_extra "ev") fun T tn=>⟨T,d,o8,tn,_,.inr (.inl ⟨fn9,⟨_,_,_,rfl⟩⟩),hD8.is,lo,rfl,rfl⟩
  · refine Xd.asg (v := .s (Str.ofString "H")) (by k_extra "fm") ?_ rfl (fun _ _=>rfl)
    refine Xd.dict0 (fun d o lo hlt hD=>?_) rfl (fun _ _=>rfl)
    refine Xd.pairs (T := 77) (v := v) (l := [(Str.ofString "rd",(7 : Int)),(Str.ofString "rs1",(15 : Int))]) rfl (by k_extra "gp") hD hlt ⟨rfl,rfl,rfl⟩ (Prs.cons rfl rfl rfl (Prs.cons rfl rfl rfl Prs.nil)) rfl ⟨rfl,rfl,rfl,rfl⟩ (by decide) rfl rfl (fun _ _=>rfl) (fun _ _=>rfl) fun o9 kv9 hq9 hD9=>?_
    obtain ⟨t0,t1,rfl⟩ := hq9
    refine Xd.ifPut rfl (Te.bnd (r := some _) (by k_extra "ev") (by k_extra "gb") rfl rfl) rfl hlt hD9 (n := immH v) (by (refine' Ev.call2 (D := 2) ?zf ?za ?zb ?zc ?zd ?zs ?zt ?zk;(case zf=>(apply Ev.glo;rfl;exact gl_immof _));(case za=>k_extra "ev");(case zb=>k_extra "ev");(case zd=>rfl);(case zs=>exact fun _=>rfl);(case zt=>exact fun _=>rfl);(case zk=>exact kp_immof _);(case zc=>(rintro _ _ ⟨t8,rfl⟩ ⟨t9,rfl⟩;exact Cp.ofI (c_imm_H _ _ _) hv)))) (by k_extra "ev") (fun _ _=>rfl) fun o8 tv8 hD8=>?_
    refine Xd.pair (by k_extra "ev") (by k_extra "ev") fun T tn=>⟨T,d,o8,tn,_,.inr (.inr (.inl ⟨fn9,⟨_,_,_,rfl⟩⟩)),hD8.is,lo,rfl,rfl⟩
  · refine Xd.asg (v := .s (Str.ofString "S")) (by k_extra "fm") ?_ rfl (fun _ _=>rfl)
    refine Xd.dict0 (fun d o lo hlt hD=>?_) rfl (fun _ _=>rfl)
    refine Xd.pairs (T := 80) (v := v) (l := [(Str.ofString "rs1",(15 : Int)),(Str.ofString "rs2",(20 : Int))]) rfl (by k_extra "gp") hD hlt ⟨rfl,rfl,rfl⟩ (Prs.cons rfl rfl rfl (Prs.cons rfl rfl rfl Prs.nil)) rfl ⟨rfl,rfl,rfl,rfl⟩ (by decide) rfl rfl (fun _ _=>rfl) (fun _ _=>rfl) fun o9 kv9 hq9 hD9=>?_
    obtain ⟨t0,t1,rfl⟩ := hq9
    refine Xd.ifPut rfl (Te.bnd (r := some _) (by k_extra "ev") (by k_extra "gb") rfl rfl) rfl hlt hD9 (n := immS v) (by (refine' Ev.call2 (D := 2) ?zf ?za ?zb ?zc ?zd ?zs ?zt ?zk;(case zf=>(apply Ev.glo;rfl;exact gl_immof _));(case za=>k_extra "ev");(case zb=>k_extra "ev");(case zd=>rfl);(case zs=>exact fun _=>rfl);(case zt=>exact fun _=>rfl);(case zk=>exact kp_immof _);(case zc=>(rintro _ _ ⟨t8,rfl⟩ ⟨t9,rfl⟩;exact Cp.ofI (c_imm_S _ _ _) hv)))) (by k_extra "ev") (fun _ _=>rfl) fun o8 tv8 hD8=>?_
    refine Xd.pair (by k_extra "ev") (by k_extra "ev") fun T tn=>⟨T,d,o8,tn,_,.inr (.inr (.inr (.inl ⟨fn9,⟨_,_,_,rfl⟩⟩))),hD8.is,lo,rfl,rfl⟩
  · refine Xd.asg (v := .s (Str.ofString "B")) (by k_extra "fm") ?_ rfl (fun _ _=>rfl)
    refine Xd.dict0 (fun d o lo hlt hD=>?_) rfl (fun _ _=>rfl)
    refine Xd.pairs (T := 83) (v := v) (l := [(Str.ofString "rs1",(15 : Int)),(Str.ofString "rs2",(20 : Int))]) rfl (by k_extra "gp") hD hlt ⟨rfl,rfl,rfl⟩ (Prs.cons rfl rfl rfl (Prs.cons rfl rfl rfl Prs.nil)) rfl ⟨rfl,rfl,rfl,rfl⟩ (by decide) rfl rfl (fun _ _=>rfl) (fun _ _=>rfl) fun o9 kv9 hq9 hD9=>?_
    obtain ⟨t0,t1,rfl⟩ := hq9
    refine Xd.ifPut rfl (Te.bnd (r := some _) (by k_extra "ev") (by k_extra "gb") rfl rfl) rfl hlt hD9 (n := immB v) (by (refine' Ev.call2 (D := 2) ?zf ?za ?zb ?zc ?zd ?zs ?zt ?zk;(case zf=>(apply Ev.glo;rfl;exact gl_immof _));(case za=>k_extra "ev");(case zb=>k_extra "ev");(case zd=>rfl);(case zs=>exact fun _=>rfl);(case zt=>exact fun _=>rfl);(case zk=>exact kp_immof _);(case zc=>(rintro _ _ ⟨t8,rfl⟩ ⟨t9,rfl⟩;exact Cp.ofI (c_imm_B _ _ _) hv)))) (by k_extra "ev") (fun _ _=>rfl) fun o8 tv8 hD8=>?_
    refine Xd.pair (by k_extra "ev") (by k_extra "ev") fun T tn=>⟨T,d,o8,tn,_,.inr (.inr (.inr (.inr (.inl ⟨fn9,⟨_,_,_,rfl⟩⟩)))),hD8.is,lo,rfl,rfl⟩
  · refine Xd.asg (v := .s (Str.ofString "U")) (by k_extra "fm") ?_ rfl (fun _ _=>rfl)
    refine Xd.dict0 (fun d o lo hlt hD=>?_) rfl (fun _ _=>rfl)
    refine Xd.pairs (T := 85) (v := v) (l := [(Str.ofString "rd",(7 : Int))]) rfl (by k_extra "gp") hD hlt ⟨rfl,rfl,rfl⟩ (Prs.cons rfl rfl rfl Prs.nil) rfl ⟨rfl,rfl,rfl,rfl⟩ (by decide) rfl rfl (fun _ _=>rfl) (fun _ _=>rfl) fun o9 kv9 hq9 hD9=>?_
    obtain ⟨t0,rfl⟩ := hq9
    refine Xd.ifPut rfl (Te.bnd (r := some _) (by k_extra "ev") (by k_extra "gb") rfl rfl) rfl hlt hD9 (n := immU v) (by (refine' Ev.call2 (D := 2) ?zf ?za ?zb ?zc ?zd ?zs ?zt ?zk;(case zf=>(apply Ev.glo;rfl;exact gl_immof _));(case za=>k_extra "ev");(case zb=>k_extra "ev");(case zd=>rfl);(case zs=>exact fun _=>rfl);(case zt=>exact fun _=>rfl);(case zk=>exact kp_immof _);(case zc=>(rintro _ _ ⟨t8,rfl⟩ ⟨t9,rfl⟩;exact Cp.ofI (c_imm_U _ _ _) hv)))) (by k_extra "ev") (fun _ _=>rfl) fun o8 tv8 hD8=>?_
    refine Xd.pair (by k_extra "ev") (by k_extra "ev") fun T tn=>⟨T,d,o8,tn,_,.inr (.inr (.inr (.inr (.inr (.inl ⟨fn9,⟨_,_,rfl⟩⟩))))),hD8.is,lo,rfl,rfl⟩
  · refine Xd.asg (v := .s (Str.ofString "J")) (by k_extra "fm") ?_ rfl (fun _ _=>rfl)
    refine Xd.dict0 (fun d o lo hlt hD=>?_) rfl (fun _ _=>rfl)
    refine Xd.pairs (T := 87) (v := v) (l := [(Str.ofString "rd",(7 : Int))]) rfl (by k_extra "gp") hD hlt ⟨rfl,rfl,rfl⟩ (Prs.cons rfl rfl rfl Prs.nil) rfl ⟨rfl,rfl,rfl,rfl⟩ (by decide) rfl rfl (fun _ _=>rfl) (fun _ _=>rfl) fun o9 kv9 hq9 hD9=>?_
    obtain ⟨t0,rfl⟩ := hq9
    refine Xd.ifPut rfl (Te.bnd (r := some _) (by k_extra "ev") (by k_extra "gb") rfl rfl) rfl hlt hD9 (n := immJ v) (by (refine' Ev.call2 (D := 2) ?zf ?za ?zb ?zc ?zd ?zs ?zt ?zk;(case zf=>(apply Ev.glo;rfl;exact gl_immof _));(case za=>k_extra "ev");(case zb=>k_extra "ev");(case zd=>rfl);(case zs=>exact fun _=>rfl);(case zt=>exact fun _=>rfl);(case zk=>exact kp_immof _);(case zc=>(rintro _ _ ⟨t8,rfl⟩ ⟨t9,rfl⟩;exact Cp.ofI (c_imm_J _ _ _) hv)))) (by k_extra "ev") (fun _ _=>rfl) fun o8 tv8 hD8=>?_
    refine Xd.pair (by k_extra "ev") (by k_extra "ev") fun T tn=>⟨T,d,o8,tn,_,.inr (.inr (.inr (.inr (.inr (.inr (.inl ⟨fn9,⟨_,_,rfl⟩⟩)))))),hD8.is,lo,rfl,rfl⟩
  · refine Xd.asg (v := .s (Str.ofString "F")) (by k_extra "fm") ?_ rfl (fun _ _=>rfl)
    refine Xd.dict0 (fun d o lo hlt hD=>?_) rfl (fun _ _=>rfl)
    refine Xd.pairs (T := 88) (v := v) (l := []) rfl (by k_extra "gp") hD hlt ⟨rfl,rfl,rfl⟩ Prs.nil rfl ⟨rfl,rfl,rfl,rfl⟩ (by decide) rfl rfl (fun _ _=>rfl) (fun _ _=>rfl) fun o9 kv9 hq9 hD9=>?_
    have hq9 : [] = kv9 := hq9
    subst hq9
    refine Xd.ifPut rfl (Te.bnd (r := some _) (by k_extra "ev") (by k_extra "gb") rfl rfl) rfl hlt hD9 (n := immF v) (by (refine' Ev.call2 (D := 2) ?zf ?za ?zb ?zc ?zd ?zs ?zt ?zk;(case zf=>(apply Ev.glo;rfl;exact gl_immof _));(case za=>k_extra "ev");(case zb=>k_extra "ev");(case zd=>rfl);(case zs=>exact fun _=>rfl);(case zt=>exact fun _=>rfl);(case zk=>exact kp_immof _);(case zc=>(rintro _ _ ⟨t8,rfl⟩ ⟨t9,rfl⟩;exact Cp.ofI (c_imm_F _ _ _) hv)))) (by k_extra "ev") (fun _ _=>rfl) fun o8 tv8 hD8=>?_
    refine Xd.pair (by k_extra "ev") (by k_extra "ev") fun T tn=>⟨T,d,o8,tn,_,.inr (.inr (.inr (.inr (.inr (.inr (.inr (.inl ⟨fn9,⟨_,rfl⟩⟩))))))),hD8.is,lo,rfl,rfl⟩
  · refine Xd.asg (v := .s (Str.ofString "E")) (by k_extra "fm") ?_ rfl (fun _ _=>rfl)
    refine Xd.dict0 (fun d o lo hlt hD=>?_) rfl (fun _ _=>rfl)
    refine Xd.pairs (T := 89) (v := v) (l := []) rfl (by k_extra "gp") hD hlt ⟨rfl,rfl,rfl⟩ Prs.nil rfl ⟨rfl,rfl,rfl,rfl⟩ (by decide) rfl rfl (fun _ _=>rfl) (fun _ _=>rfl) fun o9 kv9 hq9 hD9=>?_
    have hq9 : [] = kv9 := hq9
    subst hq9
    refine Xd.ifF (Te.bnd (r := none) (by k_extra "ev") (by k_extra "gb") rfl rfl) rfl ?_
    refine Xd.pair (by k_extra "ev") (by k_extra "ev") fun T tn=>⟨T,d,o9,tn,_,.inr (.inr (.inr (.inr (.inr (.inr (.inr (.inr (⟨fn9,rfl⟩)))))))),hD9.is,lo,rfl,rfl⟩
end
section
theorem jd_onO : True := by
  k_with "we" => first
    | exact We.nil
    | (apply We.cons;k_extra "ev";k_extra "we";exact fun _=>rfl)
  k_with "ev" => first
    | (apply Ev.inW;k_extra "ev";k_extra "we";decide;rfl)
    | (apply Ev.niW;k_extra "ev";k_extra "we";decide;rfl)
    | (apply Ev.cmp;k_extra "ev";k_extra "ev";k_extra "cm";rfl)
    | (apply Ev.or_;k_extra "ev";k_extra "ev")
    | (apply Ev.and_;k_extra "ev";k_extra "ev")
    | (apply Ev.bop1;k_extra "ev")
  k_with "te" => first
    | (apply Te.inWi;k_extra "ev";k_extra "we";decide;rfl)
  k_with "pt" => first
    | exact Pt.nil
    | (apply Pt.cons;(intro _;k_extra "we");decide;k_extra "pt")
  trivial
theorem one_bits (v : Int) : v.fmod 128 = v % 128 ∧ (v.fdiv 4096).fmod 8 = v / 4096 % 8 ∧ v.fdiv (2 ^ Int.toNat 25) = v / 2 ^ 25 ∧ v.fdiv (2 ^ Int.toNat 28) = v / 2 ^ 28 ∧ v.fmod (2 ^ Int.toNat 20) = v % 2 ^ 20 := by
  refine ⟨Int.fmod_eq_emod_of_nonneg _ (by decide),?_,fd _ _,fd _ _,Int.fmod_eq_emod_of_nonneg _ (by decide)⟩
  rw [Int.fdiv_eq_ediv_of_nonneg _ (by decide),Int.fmod_eq_emod_of_nonneg _ (by decide)]
theorem low8 : ∀ k : Fin 8,([0].any fun y=>y == ((k : Nat) : Int)) = decide (((k : Nat) : Int) = 0) ∧ ([0,1,4,5,6,7].any fun y=>y == ((k : Nat) : Int)) = decide (¬ (((k : Nat) : Int) = 2 ∨ ((k : Nat) : Int) = 3)) ∧ ([0,1,2,4,5].any fun y=>y == ((k : Nat) : Int)) = decide (¬ (((k : Nat) : Int) = 3 ∨ ((k : Nat) : Int) = 6 ∨ ((k : Nat) : Int) = 7)) ∧ ([0,1,2].any fun y=>y == ((k : Nat) : Int)) = decide (((k : Nat) : Int) = 0 ∨ ((k : Nat) : Int) = 1 ∨ ((k : Nat) : Int) = 2) := by decide +kernel
theorem one19 (l h : Int) : ((!([1,5].any fun y=>y == l)) || (h == 0 || (l == 5 && h == 32))) = (if l = 1 ∨ l = 5 then decide (h = 0 ∨ (l = 5 ∧ h = 32)) else true) := by
  by_cases a : l = 1
  · subst a;rw [if_pos (.inl rfl),Bool.eq_iff_iff];simp
  · by_cases b : l = 5
    · subst b;rw [if_pos (.inr rfl),Bool.eq_iff_iff];simp
    · rw [if_neg (fun q=>q.elim a b),show ([1,5].any fun y=>y == l) = false by simp [Ne.symm a,Ne.symm b]];rfl
theorem one51 (l h : Int) : (([0,1].any fun y=>y == h) || (h == 32 && ([0,5].any fun y=>y == l))) = decide (h = 0 ∨ h = 1 ∨ (h = 32 ∧ (l = 0 ∨ l = 5))) := by
  rw [Bool.eq_iff_iff]
  simp only [List.any_cons,List.any_nil,Bool.or_false,Bool.or_eq_true,Bool.and_eq_true,beq_iff_eq,decide_eq_true_eq,@eq_comm Int 0,@eq_comm Int 1,@eq_comm Int 5,or_assoc]
theorem one15 (a b : Int) : ((a == 15) && (b == 0)) = decide (a = 15 ∧ b = 0) := by rw [Bool.eq_iff_iff];simp
theorem one115 (v : Int) : ([115,115 + 2 ^ Int.toNat 20].any fun y=>y == v) = decide (v = 115 ∨ v = 1048691) := by
  rw [Bool.eq_iff_iff];show ([115,1048691].any fun y=>y == v) = true ↔ _
  simp only [List.any_cons,List.any_nil,Bool.or_false,Bool.or_eq_true,beq_iff_eq,decide_eq_true_eq,@eq_comm Int 115,@eq_comm Int 1048691]
theorem oneP (p low : Int) (a b c d x0 x1 x2 x3 : Bool) (l1 : ([0].any fun y=>y == low) = x0) (l2 : ([0,1,4,5,6,7].any fun y=>y == low) = x1) (l3 : ([0,1,2,4,5].any fun y=>y == low) = x2) (l4 : ([0,1,2].any fun y=>y == low) = x3) :
    (bif [55,23,111].any fun y=>y == p then true else bif p == 19 then a else bif p == 51 then b else bif p == 15 then c else bif p == 115 then d else (lookQ [(103,[0]),(99,[0,1,4,5,6,7]),(3,[0,1,2,4,5]),(35,[0,1,2])] p).any fun y=>y == low) =
    if p = 55 ∨ p = 23 ∨ p = 111 then true else if p = 19 then a else if p = 51 then b else if p = 15 then c else if p = 115 then d else if p = 103 then x0 else if p = 99 then x1 else if p = 3 then x2 else if p = 35 then x3 else false := by
  by_cases q1 : p = 55;· subst q1;rfl
  by_cases q2 : p = 23;· subst q2;rfl
  by_cases q3 : p = 111;· subst q3;rfl
  by_cases q4 : p = 19;· subst q4;rfl
  by_cases q5 : p = 51;· subst q5;rfl
  by_cases q6 : p = 15;· subst q6;rfl
  by_cases q7 : p = 115;· subst q7;rfl
  by_cases q8 : p = 103;· subst q8;exact l1
  by_cases q9 : p = 99;· subst q9;exact l2
  by_cases qa : p = 3;· subst qa;exact l3
  by_cases qb : p = 35;· subst qb;exact l4
  rw [show ([55,23,111].any fun y=>y == p) = false by simp [Ne.symm q1,Ne.symm q2,Ne.symm q3],beq_false_of_ne q4,beq_false_of_ne q5,beq_false_of_ne q6,beq_false_of_ne q7,
    show lookQ [(103,[0]),(99,[0,1,4,5,6,7]),(3,[0,1,2,4,5]),(35,[0,1,2])] p = [] by
      unfold lookQ;rw [if_neg (Ne.symm q8)];unfold lookQ;rw [if_neg (Ne.symm q9)];unfold lookQ;rw [if_neg (Ne.symm qa)];unfold lookQ;rw [if_neg (Ne.symm qb)];rfl,
    if_neg (show ¬ (p = 55 ∨ p = 23 ∨ p = 111) from fun h=>h.elim q1 fun h=>h.elim q2 q3),if_neg q4,if_neg q5,if_neg q6,if_neg q7,if_neg q8,if_neg q9,if_neg qa,if_neg qb]
  rfl
theorem oneB_eq (v : Int) : (bif [55,23,111].any fun y=>y == v.fmod 128 then true
      else
        bif v.fmod 128 == 19 then
          (![1,5].any fun y=>y == (v.fdiv 4096).fmod 8) ||
            (v.fdiv (2 ^ Int.toNat 25) == 0 || (v.fdiv 4096).fmod 8 == 5 && v.fdiv (2 ^ Int.toNat 25) == 32)
        else
          bif v.fmod 128 == 51 then
            ([0,1].any fun y=>y == v.fdiv (2 ^ Int.toNat 25)) ||
              v.fdiv (2 ^ Int.toNat 25) == 32 && [0,5].any fun y=>y == (v.fdiv 4096).fmod 8
          else
            bif v.fmod 128 == 15 then v.fmod (2 ^ Int.toNat 20) == 15 && v.fdiv (2 ^ Int.toNat 28) == 0
            else
              bif v.fmod 128 == 115 then [115,115 + 2 ^ Int.toNat 20].any fun y=>y == v
              else
                (lookQ [(103,[0]),(99,[0,1,4,5,6,7]),(3,[0,1,2,4,5]),(35,[0,1,2])] (v.fmod 128)).any
                  fun y=>y == (v.fdiv 4096).fmod 8) = oneF v := by
  unfold oneF
  obtain ⟨b1,b2,b3,b4,b5⟩ := one_bits v
  rw [b1,b2,b3,b4,b5,one19,one51,one15,one115]
  have e2 : (((v / 4096 % 8).toNat : Nat) : Int) = v / 4096 % 8 := Int.toNat_of_nonneg (Int.emod_nonneg _ (by decide))
  have l8 := low8 ⟨(v / 4096 % 8).toNat,(Int.toNat_lt (Int.emod_nonneg _ (by decide))).mpr (Int.emod_lt_of_pos (v / 4096) (by decide))⟩
  simp only [e2] at l8
  obtain ⟨l1,l2,l3,l4⟩ := l8
  clear b1 b2 b3 b4 b5 e2
  exact oneP _ _ _ _ _ _ _ _ _ _ l1 l2 l3 l4
theorem c_one {w : World} {mean : ExcName → Option Value} {mg mb : Str → Option Value} {news : List (Addr × Obj)} (v : Int) (tv : Tok) :
    Cb w mean mg mb 437 1 news (0 ≤ v ∧ v < 2 ^ 32) [.int v tv] (fun t=>.bool (oneF v)) := by
  dsimp only [Cb]
  k_fill
  refine Cp.toB fun hpre=>?_
  skip
  refine enter (D := 0) (binds := [(Str.ofString "sum_now",.int v tv)]) (ρ := [(Str.ofString "sum_now",.i v)]) (by k_is) (by k_is) (fun _=>BindsTo.of_eq rfl) (by rfl) (show Lg _ [(Str.ofString "sum_now",.int v tv)] from (.cons (by first | exact rfl | exact ⟨_,rfl⟩) .nil)) rfl rfl rfl (by decide) ?_
  apply Ex.conv;(case h=>(k_extra "ex1";apply Ex.iteB;k_extra "te";k_extra "ex1";apply Ex.iteB;k_extra "te";k_extra "ex1";apply Ex.iteB;k_extra "te";k_extra "ex1";apply Ex.iteB;k_extra "te";k_extra "ex1";apply Ex.iteB;k_extra "te";k_extra "ex1";(refine' Ex.asgT ?zp ?zr ?zc ?zk ?zs;(case zp=>k_extra "pt");(case zc=>decide);(case zk=>rfl);(case zs=>exact fun _ _=>rfl);(case zr=>intro d9 o9 kvs9 pre9 lo9 hd9 ht9;apply Ex.ret;apply Ev.inget;k_extra "ev";k_extra "ev";k_extra "ev";exact lo9;exact hd9;exact ht9;k_mem;(exact fun _ h=>.tail _ (List.mem_append_left _ h));rfl;exact fun _=>rfl;exact fun _=>rfl;exact ⟨_,fun _=>rfl⟩))));exact congrArg PV.b (oneB_eq v)
end
section
variable {w : World} {mean : ExcName → Option Value} {mg mb : Str → Option Value} {news : List (Addr × Obj)}
theorem c_jmpB (n a b c : Str) (tn ta tb tc : Tok) (P : Addr) (pn : Nat) :
    Cb w mean mg mb 464 14 news ((P,listOf (List.toArray [.str a ta,.str b tb,.str c tc]) pn) ∈ news ∧ ([Str.ofString "lui",Str.ofString "auipc"].any fun x=>x == n) = false ∧ (n == Str.ofString "fence") = false ∧ (n == Str.ofString "jal") = false ∧ (brL.any fun x=>x == n) = true ∧ c.length ≤ 600 ∧ -4096 ≤ numF c ∧ numF c < 4096 ∧ ((numF c).fmod 2 == 0) = true) [.str n tn,.ref P] (fun t=>.int (jmpBF n a b c) t) := by
  dsimp only [Cb]
  k_fill
  refine Cp.toI fun hpre=>?_
  obtain ⟨hm9,q1,q2,q3,q4,hxl,f1,f2,f3⟩ := hpre
  refine enterC (D := 13) (binds := [(Str.ofString "name",.str n tn),(Str.ofString "parts",.ref P)]) (ρ := [(Str.ofString "parts",.v (.ref P)),(Str.ofString "name",.s n)]) (by k_is) (by k_is) (fun _=>BindsTo.of_eq rfl) (by rfl) (by decide +kernel) (fun kd hk=>locs_bindL (by rw [hk];rfl) (by rw [hk];rfl) (by first | exact rfl | exact ⟨_,rfl⟩) (by first | exact rfl | exact ⟨_,rfl⟩)) rfl rfl rfl ?_
  (apply Ex.ifF;k_extra "te";(exact q2))
  k_extra "ex1"
  (apply Ex.ifF;k_extra "te";(rw [q1];rfl))
  (apply Ex.ifF;k_extra "te";(rw [q3];rfl))
  (apply Ex.ifT;k_extra "te";(rw [q4,decide_eq_true f1,decide_eq_true f2,f3];rfl))
  k_extra "ex1"
  k_extra "ex1"
  k_extra "ex1"
theorem c_jmp_lui (a b : Str) (tn ta tb : Tok) (P : Addr) (pn : Nat) :
    Cb w mean mg mb 464 14 news ((P,listOf (List.toArray [.str a ta,.str b tb]) pn) ∈ news ∧ b.length ≤ 600) [.str (Str.ofString "lui") tn,.ref P] (fun t=>.int (jmpUF 55 a b) t) := by
  dsimp only [Cb]
  k_fill
  refine Cp.toI fun hpre=>?_
  obtain ⟨hm9,hxl⟩ := hpre
  refine enterC (D := 13) (binds := [(Str.ofString "name",.str (Str.ofString "lui") tn),(Str.ofString "parts",.ref P)]) (ρ := [(Str.ofString "parts",.v (.ref P)),(Str.ofString "name",.s (Str.ofString "lui"))]) (by k_is) (by k_is) (fun _=>BindsTo.of_eq rfl) (by rfl) (by decide +kernel) (fun kd hk=>locs_bindL (by rw [hk];rfl) (by rw [hk];rfl) (by first | exact rfl | exact ⟨_,rfl⟩) (by first | exact rfl | exact ⟨_,rfl⟩)) rfl rfl rfl ?_
  (apply Ex.ifF;k_extra "te";(rfl))
  k_extra "ex1"
  (apply Ex.ifT;k_extra "te";(rfl))
  k_extra "ex1"
theorem c_jmp_auipc (a b : Str) (tn ta tb : Tok) (P : Addr) (pn : Nat) :
    Cb w mean mg mb 464 14 news ((P,listOf (List.toArray [.str a ta,.str b tb]) pn) ∈ news ∧ b.length ≤ 600) [.str (Str.ofString "auipc") tn,.ref P] (fun t=>.int (jmpUF 23 a b) t) := by
  dsimp only [Cb]
  k_fill
  refine Cp.toI fun hpre=>?_
  obtain ⟨hm9,hxl⟩ := hpre
  refine enterC (D := 13) (binds := [(Str.ofString "name",.str (Str.ofString "auipc") tn),(Str.ofString "parts",.ref P)]) (ρ := [(Str.ofString "parts",.v (.ref P)),(Str.ofString "name",.s (Str.ofString "auipc"))]) (by k_is) (by k_is) (fun _=>BindsTo.of_eq rfl) (by rfl) (by decide +kernel) (fun kd hk=>locs_bindL (by rw [hk];rfl) (by rw [hk];rfl) (by first | exact rfl | exact ⟨_,rfl⟩) (by first | exact rfl | exact ⟨_,rfl⟩)) rfl rfl rfl ?_
  (apply Ex.ifF;k_extra "te";(rfl))
  k_extra "ex1"
  (apply Ex.ifT;k_extra "te";(rfl))
  k_extra "ex1"
theorem c_jmp_jal (a b : Str) (tn ta tb : Tok) (P : Addr) (pn : Nat) :
    Cb w mean mg mb 464 14 news ((P,listOf (List.toArray [.str a ta,.str b tb]) pn) ∈ news ∧ b.length ≤ 600 ∧ -(2 ^ Int.toNat 20) ≤ numF b ∧ numF b < 2 ^ Int.toNat 20 ∧ ((numF b).fmod 2 == 0) = true) [.str (Str.ofString "jal") tn,.ref P] (fun t=>.int (jmpJF a b) t) := by
  dsimp only [Cb]
  k_fill
  refine Cp.toI fun hpre=>?_
  obtain ⟨hm9,hxl,f1,f2,f3⟩ := hpre
  refine enterC (D := 13) (binds := [(Str.ofString "name",.str (Str.ofString "jal") tn),(Str.ofString "parts",.ref P)]) (ρ := [(Str.ofString "parts",.v (.ref P)),(Str.ofString "name",.s (Str.ofString "jal"))]) (by k_is) (by k_is) (fun _=>BindsTo.of_eq rfl) (by rfl) (by decide +kernel) (fun kd hk=>locs_bindL (by rw [hk];rfl) (by rw [hk];rfl) (by first | exact rfl | exact ⟨_,rfl⟩) (by first | exact rfl | exact ⟨_,rfl⟩)) rfl rfl rfl ?_
  (apply Ex.ifF;k_extra "te";(rfl))
  k_extra "ex1"
  (apply Ex.ifF;k_extra "te";(rfl))
  (apply Ex.ifT;k_extra "te";(rw [decide_eq_true f1,decide_eq_true f2,f3];rfl))
  k_extra "ex1"
  k_extra "ex1"
end
section
theorem c_jump {w : World} {mean : ExcName → Option Value} {mg mb : Str → Option Value} {news : List (Addr × Obj)} (n : Str) (ps : List Str) (r : Int) (vs : List Value) (tn : Tok) (P : Addr) (pn : Nat) (hR : JumpR n ps r) (hv : StrsAre vs ps) : Cb w mean mg mb 464 14 news ((P,listOf (List.toArray vs) pn) ∈ news) [.str n tn,.ref P] (fun t=>.int r t) := by
  intro dp un gd cn cs x ccd cl outer A₀ base h₀ L m s Q E B F X N T hk hp hd hu hret
  cases hR with
  | fence h1 h2 h3 h4 =>
    obtain ⟨ta,tb,rfl⟩ := vs_two hv
    exact c_fence _ _ tn ta tb P pn dp un gd cn cs x ccd cl outer A₀ base h₀ L m s Q E B F X N T hk ⟨hp,h1,h2,h3,h4⟩ hd hu hret
  | lui h1 =>
    obtain ⟨ta,tb,rfl⟩ := vs_two hv
    exact c_jmp_lui _ _ tn ta tb P pn dp un gd cn cs x ccd cl outer A₀ base h₀ L m s Q E B F X N T hk ⟨hp,h1⟩ hd hu hret
  | auipc h1 =>
    obtain ⟨ta,tb,rfl⟩ := vs_two hv
    exact c_jmp_auipc _ _ tn ta tb P pn dp un gd cn cs x ccd cl outer A₀ base h₀ L m s Q E B F X N T hk ⟨hp,h1⟩ hd hu hret
  | jal h1 h2 h3 h4 =>
    obtain ⟨ta,tb,rfl⟩ := vs_two hv
    exact c_jmp_jal _ _ tn ta tb P pn dp un gd cn cs x ccd cl outer A₀ base h₀ L m s Q E B F X N T hk ⟨hp,h1,h2,h3,h4⟩ hd hu hret
  | branch h1 h2 h3 h4 h5 h6 h7 h8 =>
    obtain ⟨ta,tb,tc,rfl⟩ := vs_three hv
    exact c_jmpB _ _ _ _ tn ta tb tc P pn dp un gd cn cs x ccd cl outer A₀ base h₀ L m s Q E B F X N T hk ⟨hp,h1,h2,h3,h4,h5,h6,h7,h8⟩ hd hu hret
end
section
variable {w : World} {mean : ExcName → Option Value} {mg mb : Str → Option Value} {news : List (Addr × Obj)}
theorem c_mvS (n a p pi rs : Str) (tn ta tp : Tok) (P : Addr) (pn : Nat) :
    Cb w mean mg mb 471 14 news ((P,listOf (List.toArray [.str a ta,.str p tp]) pn) ∈ news ∧ p.length ≤ 600 ∧ pi.length ≤ 600 ∧ rs.length ≤ 600 ∧ (Txt.partition p (Str.ofString "(")).1 = pi ∧ (Txt.partition p (Str.ofString "(")).2.1 = Str.ofString "(" ∧ (Txt.partition p (Str.ofString "(")).2.2 = rs ∧ (Txt.slice rs (some (-1)) none != Str.ofString ")") = false ∧ -2048 ≤ numF pi ∧ numF pi < 2048 ∧ ([Str.ofString "sb",Str.ofString "sh",Str.ofString "sw"].any fun x=>x == n) = true) [.str n tn,.ref P] (fun t=>.int (mvS n a pi rs) t) := by
  dsimp only [Cb]
  k_fill
  refine Cp.toI fun hpre=>?_
  obtain ⟨hm9,hpl,hil,hrl,e1,e2,e3,q9,f1,f2,q8⟩ := hpre
  have hp9 : Txt.partition p (Str.ofString "(") = (pi,Str.ofString "(",rs) := Prod.ext e1 (Prod.ext e2 e3)
  refine enter (D := 13) (binds := [(Str.ofString "name",.str n tn),(Str.ofString "parts",.ref P)]) (ρ := [(Str.ofString "parts",.v (.ref P)),(Str.ofString "name",.s n)]) (by k_is) (by k_is) (fun _=>BindsTo.of_eq rfl) (by rfl) (show Lg _ [(Str.ofString "parts",.ref P),(Str.ofString "name",.str n tn)] from (.cons (by first | exact rfl | exact ⟨_,rfl⟩) (.cons (by first | exact rfl | exact ⟨_,rfl⟩) .nil))) rfl rfl rfl (by decide) ?_
  (apply Ex.part;k_extra "ev";exact hp9;rfl;omega;rotate_left 1;rfl;(exact ⟨_,fun _=>rfl⟩);(exact fun _=>rfl);(exact fun _=>rfl))
  k_extra "ex1"
  (apply Ex.ifF;k_extra "te";(rw [q9,decide_eq_true f1,decide_eq_true f2];rfl))
  (apply Ex.ifT;k_extra "te";(exact q8))
  k_extra "ex1"
  k_extra "ex1"
theorem c_mvL (n a p pi rs : Str) (tn ta tp : Tok) (P : Addr) (pn : Nat) :
    Cb w mean mg mb 471 14 news ((P,listOf (List.toArray [.str a ta,.str p tp]) pn) ∈ news ∧ p.length ≤ 600 ∧ pi.length ≤ 600 ∧ rs.length ≤ 600 ∧ (Txt.partition p (Str.ofString "(")).1 = pi ∧ (Txt.partition p (Str.ofString "(")).2.1 = Str.ofString "(" ∧ (Txt.partition p (Str.ofString "(")).2.2 = rs ∧ (Txt.slice rs (some (-1)) none != Str.ofString ")") = false ∧ -2048 ≤ numF pi ∧ numF pi < 2048 ∧ ([Str.ofString "sb",Str.ofString "sh",Str.ofString "sw"].any fun x=>x == n) = false ∧ (n == Str.ofString "jalr") = false ∧ (feL.any fun x=>x == n) = true) [.str n tn,.ref P] (fun t=>.int (mvL (3 + ((feL.idxOf n : Nat) : Int) * 4096) a pi rs) t) := by
  dsimp only [Cb]
  k_fill
  refine Cp.toI fun hpre=>?_
  obtain ⟨hm9,hpl,hil,hrl,e1,e2,e3,q9,f1,f2,q8,q7,q6⟩ := hpre
  have hp9 : Txt.partition p (Str.ofString "(") = (pi,Str.ofString "(",rs) := Prod.ext e1 (Prod.ext e2 e3)
  refine enter (D := 13) (binds := [(Str.ofString "name",.str n tn),(Str.ofString "parts",.ref P)]) (ρ := [(Str.ofString "parts",.v (.ref P)),(Str.ofString "name",.s n)]) (by k_is) (by k_is) (fun _=>BindsTo.of_eq rfl) (by rfl) (show Lg _ [(Str.ofString "parts",.ref P),(Str.ofString "name",.str n tn)] from (.cons (by first | exact rfl | exact ⟨_,rfl⟩) (.cons (by first | exact rfl | exact ⟨_,rfl⟩) .nil))) rfl rfl rfl (by decide) ?_
  (apply Ex.part;k_extra "ev";exact hp9;rfl;omega;rotate_left 1;rfl;(exact ⟨_,fun _=>rfl⟩);(exact fun _=>rfl);(exact fun _=>rfl))
  k_extra "ex1"
  (apply Ex.ifF;k_extra "te";(rw [q9,decide_eq_true f1,decide_eq_true f2];rfl))
  (apply Ex.ifF;k_extra "te";(exact q8))
  (apply Ex.asg;(apply Ev.ifF;k_extra "te";(exact q7);k_extra "ev");rotate_left 1;rfl;(exact fun _ _=>rfl))
  k_extra "ex1"
theorem c_mvJ (a p pi rs : Str) (tn ta tp : Tok) (P : Addr) (pn : Nat) :
    Cb w mean mg mb 471 14 news ((P,listOf (List.toArray [.str a ta,.str p tp]) pn) ∈ news ∧ p.length ≤ 600 ∧ pi.length ≤ 600 ∧ rs.length ≤ 600 ∧ (Txt.partition p (Str.ofString "(")).1 = pi ∧ (Txt.partition p (Str.ofString "(")).2.1 = Str.ofString "(" ∧ (Txt.partition p (Str.ofString "(")).2.2 = rs ∧ (Txt.slice rs (some (-1)) none != Str.ofString ")") = false ∧ -2048 ≤ numF pi ∧ numF pi < 2048) [.str (Str.ofString "jalr") tn,.ref P] (fun t=>.int (mvL 103 a pi rs) t) := by
  dsimp only [Cb]
  k_fill
  refine Cp.toI fun hpre=>?_
  obtain ⟨hm9,hpl,hil,hrl,e1,e2,e3,q9,f1,f2⟩ := hpre
  have hp9 : Txt.partition p (Str.ofString "(") = (pi,Str.ofString "(",rs) := Prod.ext e1 (Prod.ext e2 e3)
  refine enter (D := 13) (binds := [(Str.ofString "name",.str (Str.ofString "jalr") tn),(Str.ofString "parts",.ref P)]) (ρ := [(Str.ofString "parts",.v (.ref P)),(Str.ofString "name",.s (Str.ofString "jalr"))]) (by k_is) (by k_is) (fun _=>BindsTo.of_eq rfl) (by rfl) (show Lg _ [(Str.ofString "parts",.ref P),(Str.ofString "name",.str (Str.ofString "jalr") tn)] from (.cons (by first | exact rfl | exact ⟨_,rfl⟩) (.cons (by first | exact rfl | exact ⟨_,rfl⟩) .nil))) rfl rfl rfl (by decide) ?_
  (apply Ex.part;k_extra "ev";exact hp9;rfl;omega;rotate_left 1;rfl;(exact ⟨_,fun _=>rfl⟩);(exact fun _=>rfl);(exact fun _=>rfl))
  k_extra "ex1"
  (apply Ex.ifF;k_extra "te";(rw [q9,decide_eq_true f1,decide_eq_true f2];rfl))
  (apply Ex.ifF;k_extra "te";(rfl))
  (apply Ex.asg;(apply Ev.ifT;k_extra "te";(rfl);k_extra "ev");rotate_left 1;rfl;(exact fun _ _=>rfl))
  k_extra "ex1"
end
section
variable {w : World} {mean : ExcName → Option Value} {mg mb : Str → Option Value} {news : List (Addr × Obj)}
theorem c_wk_slli (a b c : Str) (tn ta tb tc : Tok) (P : Addr) (pn : Nat) :
    Cb w mean mg mb 478 14 news ((P,listOf (List.toArray [.str a ta,.str b tb,.str c tc]) pn) ∈ news ∧ c.length ≤ 600 ∧ 0 ≤ numF c ∧ numF c < 32) [.str (Str.ofString "slli") tn,.ref P] (fun t=>.int (19 + 1 * 4096 + (cellF a * 128 + cellF b * 2 ^ Int.toNat 15) + numF c * 2 ^ Int.toNat 20 + 0 * 2 ^ Int.toNat 25) t) := by
  dsimp only [Cb]
  k_fill
  refine Cp.toI fun hpre=>?_
  obtain ⟨hm9,hcl,f1,f2⟩ := hpre
  refine enter (D := 13) (binds := [(Str.ofString "name",.str (Str.ofString "slli") tn),(Str.ofString "parts",.ref P)]) (ρ := [(Str.ofString "parts",.v (.ref P)),(Str.ofString "name",.s (Str.ofString "slli"))]) (by k_is) (by k_is) (fun _=>BindsTo.of_eq rfl) (by rfl) (show Lg _ [(Str.ofString "parts",.ref P),(Str.ofString "name",.str (Str.ofString "slli") tn)] from (.cons (by first | exact rfl | exact ⟨_,rfl⟩) (.cons (by first | exact rfl | exact ⟨_,rfl⟩) .nil))) rfl rfl rfl (by decide) ?_
  k_extra "ex1"
  (apply Ex.ifT;k_extra "te";(rw [decide_eq_true f1,decide_eq_true f2];decide))
  k_extra "ex1"
  k_extra "ex1"
theorem c_wk_srli (a b c : Str) (tn ta tb tc : Tok) (P : Addr) (pn : Nat) :
    Cb w mean mg mb 478 14 news ((P,listOf (List.toArray [.str a ta,.str b tb,.str c tc]) pn) ∈ news ∧ c.length ≤ 600 ∧ 0 ≤ numF c ∧ numF c < 32) [.str (Str.ofString "srli") tn,.ref P] (fun t=>.int (19 + 5 * 4096 + (cellF a * 128 + cellF b * 2 ^ Int.toNat 15) + numF c * 2 ^ Int.toNat 20 + 0 * 2 ^ Int.toNat 25) t) := by
  dsimp only [Cb]
  k_fill
  refine Cp.toI fun hpre=>?_
  obtain ⟨hm9,hcl,f1,f2⟩ := hpre
  refine enter (D := 13) (binds := [(Str.ofString "name",.str (Str.ofString "srli") tn),(Str.ofString "parts",.ref P)]) (ρ := [(Str.ofString "parts",.v (.ref P)),(Str.ofString "name",.s (Str.ofString "srli"))]) (by k_is) (by k_is) (fun _=>BindsTo.of_eq rfl) (by rfl) (show Lg _ [(Str.ofString "parts",.ref P),(Str.ofString "name",.str (Str.ofString "srli") tn)] from (.cons (by first | exact rfl | exact ⟨_,rfl⟩) (.cons (by first | exact rfl | exact ⟨_,rfl⟩) .nil))) rfl rfl rfl (by decide) ?_
  k_extra "ex1"
  (apply Ex.ifT;k_extra "te";(rw [decide_eq_true f1,decide_eq_true f2];decide))
  k_extra "ex1"
  k_extra "ex1"
theorem c_wk_srai (a b c : Str) (tn ta tb tc : Tok) (P : Addr) (pn : Nat) :
    Cb w mean mg mb 478 14 news ((P,listOf (List.toArray [.str a ta,.str b tb,.str c tc]) pn) ∈ news ∧ c.length ≤ 600 ∧ 0 ≤ numF c ∧ numF c < 32) [.str (Str.ofString "srai") tn,.ref P] (fun t=>.int (19 + 5 * 4096 + (cellF a * 128 + cellF b * 2 ^ Int.toNat 15) + numF c * 2 ^ Int.toNat 20 + 32 * 2 ^ Int.toNat 25) t) := by
  dsimp only [Cb]
  k_fill
  refine Cp.toI fun hpre=>?_
  obtain ⟨hm9,hcl,f1,f2⟩ := hpre
  refine enter (D := 13) (binds := [(Str.ofString "name",.str (Str.ofString "srai") tn),(Str.ofString "parts",.ref P)]) (ρ := [(Str.ofString "parts",.v (.ref P)),(Str.ofString "name",.s (Str.ofString "srai"))]) (by k_is) (by k_is) (fun _=>BindsTo.of_eq rfl) (by rfl) (show Lg _ [(Str.ofString "parts",.ref P),(Str.ofString "name",.str (Str.ofString "srai") tn)] from (.cons (by first | exact rfl | exact ⟨_,rfl⟩) (.cons (by first | exact rfl | exact ⟨_,rfl⟩) .nil))) rfl rfl rfl (by decide) ?_
  k_extra "ex1"
  (apply Ex.ifT;k_extra "te";(rw [decide_eq_true f1,decide_eq_true f2];decide))
  k_extra "ex1"
  k_extra "ex1"
theorem c_wkI (n a b c : Str) (tn ta tb tc : Tok) (P : Addr) (pn : Nat) :
    Cb w mean mg mb 478 14 news ((P,listOf (List.toArray [.str a ta,.str b tb,.str c tc]) pn) ∈ news ∧ c.length ≤ 600 ∧ ([Str.ofString "slli",Str.ofString "srli",Str.ofString "srai"].any fun x=>x == n) = false ∧ (wfL.any fun x=>x == n) = true ∧ -2048 ≤ numF c ∧ numF c < 2048) [.str n tn,.ref P] (fun t=>.int (19 + ((wfL.idxOf n : Nat) : Int) * 4096 + (cellF a * 128 + cellF b * 2 ^ Int.toNat 15) + (numF c).fmod 4096 * 2 ^ Int.toNat 20) t) := by
  dsimp only [Cb]
  k_fill
  refine Cp.toI fun hpre=>?_
  obtain ⟨hm9,hcl,q8,q7,f1,f2⟩ := hpre
  refine enter (D := 13) (binds := [(Str.ofString "name",.str n tn),(Str.ofString "parts",.ref P)]) (ρ := [(Str.ofString "parts",.v (.ref P)),(Str.ofString "name",.s n)]) (by k_is) (by k_is) (fun _=>BindsTo.of_eq rfl) (by rfl) (show Lg _ [(Str.ofString "parts",.ref P),(Str.ofString "name",.str n tn)] from (.cons (by first | exact rfl | exact ⟨_,rfl⟩) (.cons (by first | exact rfl | exact ⟨_,rfl⟩) .nil))) rfl rfl rfl (by decide) ?_
  k_extra "ex1"
  (apply Ex.ifF;k_extra "te";(rw [q8];rfl))
  (apply Ex.ifT;k_extra "te";(rw [q7,decide_eq_true f1,decide_eq_true f2];rfl))
  k_extra "ex1"
theorem c_wkT (n a b c : Str) (tn ta tb tc : Tok) (P : Addr) (pn : Nat) :
    Cb w mean mg mb 478 14 news ((P,listOf (List.toArray [.str a ta,.str b tb,.str c tc]) pn) ∈ news ∧ c.length ≤ 600 ∧ ([Str.ofString "slli",Str.ofString "srli",Str.ofString "srai"].any fun x=>x == n) = false ∧ (wfL.any fun x=>x == n) = false ∧ (tiL.any fun x=>x == n) = true) [.str n tn,.ref P] (fun t=>.int (51 + (cellF a * 128 + cellF b * 2 ^ Int.toNat 15) + cellF c * 2 ^ Int.toNat 20 + ((tiL.idxOf n : Nat) : Int) * 4096 + 2 ^ Int.toNat 25) t) := by
  dsimp only [Cb]
  k_fill
  refine Cp.toI fun hpre=>?_
  obtain ⟨hm9,hcl,q8,q7,q6⟩ := hpre
  refine enter (D := 13) (binds := [(Str.ofString "name",.str n tn),(Str.ofString "parts",.ref P)]) (ρ := [(Str.ofString "parts",.v (.ref P)),(Str.ofString "name",.s n)]) (by k_is) (by k_is) (fun _=>BindsTo.of_eq rfl) (by rfl) (show Lg _ [(Str.ofString "parts",.ref P),(Str.ofString "name",.str n tn)] from (.cons (by first | exact rfl | exact ⟨_,rfl⟩) (.cons (by first | exact rfl | exact ⟨_,rfl⟩) .nil))) rfl rfl rfl (by decide) ?_
  k_extra "ex1"
  (apply Ex.ifF;k_extra "te";(rw [q8];rfl))
  (apply Ex.ifF;k_extra "te";(rw [q7];rfl))
  k_extra "ex1"
  (apply Ex.ifT;k_extra "te";(exact q6))
  k_extra "ex1"
theorem c_wkC (n a b c : Str) (tn ta tb tc : Tok) (P : Addr) (pn : Nat) :
    Cb w mean mg mb 478 14 news ((P,listOf (List.toArray [.str a ta,.str b tb,.str c tc]) pn) ∈ news ∧ c.length ≤ 600 ∧ ([Str.ofString "slli",Str.ofString "srli",Str.ofString "srai"].any fun x=>x == n) = false ∧ (wfL.any fun x=>x == n) = false ∧ (tiL.any fun x=>x == n) = false ∧ (wcL.any fun x=>x == n) = true) [.str n tn,.ref P] (fun t=>.int (51 + (cellF a * 128 + cellF b * 2 ^ Int.toNat 15) + cellF c * 2 ^ Int.toNat 20 + ((wcL.idxOf n : Nat) : Int) * 4096) t) := by
  dsimp only [Cb]
  k_fill
  refine Cp.toI fun hpre=>?_
  obtain ⟨hm9,hcl,q8,q7,q6,q5⟩ := hpre
  refine enter (D := 13) (binds := [(Str.ofString "name",.str n tn),(Str.ofString "parts",.ref P)]) (ρ := [(Str.ofString "parts",.v (.ref P)),(Str.ofString "name",.s n)]) (by k_is) (by k_is) (fun _=>BindsTo.of_eq rfl) (by rfl) (show Lg _ [(Str.ofString "parts",.ref P),(Str.ofString "name",.str n tn)] from (.cons (by first | exact rfl | exact ⟨_,rfl⟩) (.cons (by first | exact rfl | exact ⟨_,rfl⟩) .nil))) rfl rfl rfl (by decide) ?_
  k_extra "ex1"
  (apply Ex.ifF;k_extra "te";(rw [q8];rfl))
  (apply Ex.ifF;k_extra "te";(rw [q7];rfl))
  k_extra "ex1"
  (apply Ex.ifF;k_extra "te";(exact q6))
  (apply Ex.ifT;k_extra "te";(exact q5))
  k_extra "ex1"
theorem c_wk_sub (a b c : Str) (tn ta tb tc : Tok) (P : Addr) (pn : Nat) :
    Cb w mean mg mb 478 14 news ((P,listOf (List.toArray [.str a ta,.str b tb,.str c tc]) pn) ∈ news ∧ c.length ≤ 600) [.str (Str.ofString "sub") tn,.ref P] (fun t=>.int (51 + (cellF a * 128 + cellF b * 2 ^ Int.toNat 15) + cellF c * 2 ^ Int.toNat 20 + 0 * 4096 + 2 ^ Int.toNat 30) t) := by
  dsimp only [Cb]
  k_fill
  refine Cp.toI fun hpre=>?_
  obtain ⟨hm9,hcl⟩ := hpre
  refine enter (D := 13) (binds := [(Str.ofString "name",.str (Str.ofString "sub") tn),(Str.ofString "parts",.ref P)]) (ρ := [(Str.ofString "parts",.v (.ref P)),(Str.ofString "name",.s (Str.ofString "sub"))]) (by k_is) (by k_is) (fun _=>BindsTo.of_eq rfl) (by rfl) (show Lg _ [(Str.ofString "parts",.ref P),(Str.ofString "name",.str (Str.ofString "sub") tn)] from (.cons (by first | exact rfl | exact ⟨_,rfl⟩) (.cons (by first | exact rfl | exact ⟨_,rfl⟩) .nil))) rfl rfl rfl (by decide) ?_
  k_extra "ex1"
  (apply Ex.ifF;k_extra "te";(rfl))
  (apply Ex.ifF;k_extra "te";(rfl))
  k_extra "ex1"
  (apply Ex.ifF;k_extra "te";(rfl))
  (apply Ex.ifF;k_extra "te";(rfl))
  k_extra "ex1"
theorem c_wk_sra (a b c : Str) (tn ta tb tc : Tok) (P : Addr) (pn : Nat) :
    Cb w mean mg mb 478 14 news ((P,listOf (List.toArray [.str a ta,.str b tb,.str c tc]) pn) ∈ news ∧ c.length ≤ 600) [.str (Str.ofString "sra") tn,.ref P] (fun t=>.int (51 + (cellF a * 128 + cellF b * 2 ^ Int.toNat 15) + cellF c * 2 ^ Int.toNat 20 + 5 * 4096 + 2 ^ Int.toNat 30) t) := by
  dsimp only [Cb]
  k_fill
  refine Cp.toI fun hpre=>?_
  obtain ⟨hm9,hcl⟩ := hpre
  refine enter (D := 13) (binds := [(Str.ofString "name",.str (Str.ofString "sra") tn),(Str.ofString "parts",.ref P)]) (ρ := [(Str.ofString "parts",.v (.ref P)),(Str.ofString "name",.s (Str.ofString "sra"))]) (by k_is) (by k_is) (fun _=>BindsTo.of_eq rfl) (by rfl) (show Lg _ [(Str.ofString "parts",.ref P),(Str.ofString "name",.str (Str.ofString "sra") tn)] from (.cons (by first | exact rfl | exact ⟨_,rfl⟩) (.cons (by first | exact rfl | exact ⟨_,rfl⟩) .nil))) rfl rfl rfl (by decide) ?_
  k_extra "ex1"
  (apply Ex.ifF;k_extra "te";(rfl))
  (apply Ex.ifF;k_extra "te";(rfl))
  k_extra "ex1"
  (apply Ex.ifF;k_extra "te";(rfl))
  (apply Ex.ifF;k_extra "te";(rfl))
  k_extra "ex1"
end
section
theorem c_moved {w : World} {mean : ExcName → Option Value} {mg mb : Str → Option Value} {news : List (Addr × Obj)} (n : Str) (ps : List Str) (r : Int) (vs : List Value) (tn : Tok) (P : Addr) (pn : Nat) (hR : MoveR n ps r) (hv : StrsAre vs ps) : Cb w mean mg mb 471 14 news ((P,listOf (List.toArray vs) pn) ∈ news) [.str n tn,.ref P] (fun t=>.int r t) := by
  intro dp un gd cn cs x ccd cl outer A₀ base h₀ L m s Q E B F X N T hk hp hd hu hret
  cases hR with
  | store h1 h2 h3 h4 h5 h6 h7 h8 h9 h10 =>
    obtain ⟨ta,tb,rfl⟩ := vs_two hv
    exact c_mvS _ _ _ _ _ tn ta tb P pn dp un gd cn cs x ccd cl outer A₀ base h₀ L m s Q E B F X N T hk ⟨hp,h1,h2,h3,h4,h5,h6,h7,h8,h9,h10⟩ hd hu hret
  | load h1 h2 h3 h4 h5 h6 h7 h8 h9 h10 h11 h12 =>
    obtain ⟨ta,tb,rfl⟩ := vs_two hv
    exact c_mvL _ _ _ _ _ tn ta tb P pn dp un gd cn cs x ccd cl outer A₀ base h₀ L m s Q E B F X N T hk ⟨hp,h1,h2,h3,h4,h5,h6,h7,h8,h9,h10,h11,h12⟩ hd hu hret
  | jalr h1 h2 h3 h4 h5 h6 h7 h8 h9 =>
    obtain ⟨ta,tb,rfl⟩ := vs_two hv
    exact c_mvJ _ _ _ _ tn ta tb P pn dp un gd cn cs x ccd cl outer A₀ base h₀ L m s Q E B F X N T hk ⟨hp,h1,h2,h3,h4,h5,h6,h7,h8,h9⟩ hd hu hret
theorem c_worked {w : World} {mean : ExcName → Option Value} {mg mb : Str → Option Value} {news : List (Addr × Obj)} (n : Str) (ps : List Str) (r : Int) (vs : List Value) (tn : Tok) (P : Addr) (pn : Nat) (hR : WorkR n ps r) (hv : StrsAre vs ps) : Cb w mean mg mb 478 14 news ((P,listOf (List.toArray vs) pn) ∈ news) [.str n tn,.ref P] (fun t=>.int r t) := by
  intro dp un gd cn cs x ccd cl outer A₀ base h₀ L m s Q E B F X N T hk hp hd hu hret
  cases hR with
  | slli h1 h2 h3 =>
    obtain ⟨ta,tb,tc,rfl⟩ := vs_three hv
    exact c_wk_slli _ _ _ tn ta tb tc P pn dp un gd cn cs x ccd cl outer A₀ base h₀ L m s Q E B F X N T hk ⟨hp,h1,h2,h3⟩ hd hu hret
  | srli h1 h2 h3 =>
    obtain ⟨ta,tb,tc,rfl⟩ := vs_three hv
    exact c_wk_srli _ _ _ tn ta tb tc P pn dp un gd cn cs x ccd cl outer A₀ base h₀ L m s Q E B F X N T hk ⟨hp,h1,h2,h3⟩ hd hu hret
  | srai h1 h2 h3 =>
    obtain ⟨ta,tb,tc,rfl⟩ := vs_three hv
    exact c_wk_srai _ _ _ tn ta tb tc P pn dp un gd cn cs x ccd cl outer A₀ base h₀ L m s Q E B F X N T hk ⟨hp,h1,h2,h3⟩ hd hu hret
  | imm h1 h2 h3 h4 h5 =>
    obtain ⟨ta,tb,tc,rfl⟩ := vs_three hv
    exact c_wkI _ _ _ _ tn ta tb tc P pn dp un gd cn cs x ccd cl outer A₀ base h₀ L m s Q E B F X N T hk ⟨hp,h1,h2,h3,h4,h5⟩ hd hu hret
  | times h1 h2 h3 h4 =>
    obtain ⟨ta,tb,tc,rfl⟩ := vs_three hv
    exact c_wkT _ _ _ _ tn ta tb tc P pn dp un gd cn cs x ccd cl outer A₀ base h₀ L m s Q E B F X N T hk ⟨hp,h1,h2,h3,h4⟩ hd hu hret
  | cells h1 h2 h3 h4 h5 =>
    obtain ⟨ta,tb,tc,rfl⟩ := vs_three hv
    exact c_wkC _ _ _ _ tn ta tb tc P pn dp un gd cn cs x ccd cl outer A₀ base h₀ L m s Q E B F X N T hk ⟨hp,h1,h2,h3,h4,h5⟩ hd hu hret
  | sub h1 =>
    obtain ⟨ta,tb,tc,rfl⟩ := vs_three hv
    exact c_wk_sub _ _ _ tn ta tb tc P pn dp un gd cn cs x ccd cl outer A₀ base h₀ L m s Q E B F X N T hk ⟨hp,h1⟩ hd hu hret
  | sra h1 =>
    obtain ⟨ta,tb,tc,rfl⟩ := vs_three hv
    exact c_wk_sra _ _ _ tn ta tb tc P pn dp un gd cn cs x ccd cl outer A₀ base h₀ L m s Q E B F X N T hk ⟨hp,h1⟩ hd hu hret
end
section
variable {w : World} {mean : ExcName → Option Value} {mg mb : Str → Option Value} {news : List (Addr × Obj)}
theorem c_rdJ1 (x n tl : Str) (ps : List Str) (r : Int) (tx : Tok) :
    Cb w mean mg mb 485 18 news (x.length ≤ 600 ∧ tl.length ≤ 600 ∧ (Txt.partition x (Str.ofString " ")).1 = n ∧ (Txt.partition x (Str.ofString " ")).2.1 = Str.ofString " " ∧ (Txt.partition x (Str.ofString " ")).2.2 = tl ∧ Txt.split tl (Str.ofString ", ") = ps ∧ (n == Str.ofString ".word") = false ∧ JumpR n ps r ∧ ([Str.ofString "fence",Str.ofString "lui",Str.ofString "auipc",Str.ofString "jal"].any fun x=>x == n) = true) [.str x tx] (fun t=>.int r t) := by
  dsimp only [Cb]
  k_fill
  refine Cp.toI fun hpre=>?_
  obtain ⟨hx,htl,e1,e2,e3,hs9,q1,hR9,q2⟩ := hpre
  have hp9 : Txt.partition x (Str.ofString " ") = (n,Str.ofString " ",tl) := Prod.ext e1 (Prod.ext e2 e3)
  refine enter (D := 17) (binds := [(Str.ofString "text",.str x tx)]) (ρ := [(Str.ofString "text",.s x)]) (by k_is) (by k_is) (fun _=>BindsTo.of_eq rfl) (by rfl) (show Lg _ [(Str.ofString "text",.str x tx)] from (.cons (by first | exact rfl | exact ⟨_,rfl⟩) .nil)) rfl rfl rfl (by decide) ?_
  (apply Ex.part;k_extra "ev";exact hp9;rfl;omega;rotate_left 1;rfl;(exact ⟨_,fun _=>rfl⟩);(exact fun _=>rfl);(exact fun _=>rfl))
  (apply Ex.split;k_extra "ev";(exact hs9);rfl;omega;rotate_left 1;rfl;exact ⟨_,fun _=>rfl⟩;(exact fun _=>rfl);(intro D9 vs9 sa9))
  (apply Ex.ifF;k_extra "te";(exact q1))
  (apply Ex.ifF;k_extra "te";(decide +kernel))
  (apply Ex.ifT;k_extra "te";(rw [q2];rfl))
  (apply Ex.ret;apply Ev.call2 (D := 14);(apply Ev.glo;rfl;exact gl_jump _);k_extra "ev";k_extra "ev";rotate_left 1;rfl;exact fun _=>rfl;exact fun _=>rfl;exact kp_jump _;(rintro _ _ ⟨t9,rfl⟩ e9;cases e9;exact Cp.ofI (c_jump _ _ _ _ t9 _ _ hR9 sa9) (by k_mem)))
theorem c_rdJ2 (x n tl : Str) (ps : List Str) (r : Int) (tx : Tok) :
    Cb w mean mg mb 485 18 news (x.length ≤ 600 ∧ tl.length ≤ 600 ∧ (Txt.partition x (Str.ofString " ")).1 = n ∧ (Txt.partition x (Str.ofString " ")).2.1 = Str.ofString " " ∧ (Txt.partition x (Str.ofString " ")).2.2 = tl ∧ Txt.split tl (Str.ofString ", ") = ps ∧ (n == Str.ofString ".word") = false ∧ JumpR n ps r ∧ ([Str.ofString "fence",Str.ofString "lui",Str.ofString "auipc",Str.ofString "jal"].any fun x=>x == n) = false ∧ (brL.any fun x=>x == n) = true) [.str x tx] (fun t=>.int r t) := by
  dsimp only [Cb]
  k_fill
  refine Cp.toI fun hpre=>?_
  obtain ⟨hx,htl,e1,e2,e3,hs9,q1,hR9,q2,q3⟩ := hpre
  have hp9 : Txt.partition x (Str.ofString " ") = (n,Str.ofString " ",tl) := Prod.ext e1 (Prod.ext e2 e3)
  refine enter (D := 17) (binds := [(Str.ofString "text",.str x tx)]) (ρ := [(Str.ofString "text",.s x)]) (by k_is) (by k_is) (fun _=>BindsTo.of_eq rfl) (by rfl) (show Lg _ [(Str.ofString "text",.str x tx)] from (.cons (by first | exact rfl | exact ⟨_,rfl⟩) .nil)) rfl rfl rfl (by decide) ?_
  (apply Ex.part;k_extra "ev";exact hp9;rfl;omega;rotate_left 1;rfl;(exact ⟨_,fun _=>rfl⟩);(exact fun _=>rfl);(exact fun _=>rfl))
  (apply Ex.split;k_extra "ev";(exact hs9);rfl;omega;rotate_left 1;rfl;exact ⟨_,fun _=>rfl⟩;(exact fun _=>rfl);(intro D9 vs9 sa9))
  (apply Ex.ifF;k_extra "te";(exact q1))
  (apply Ex.ifF;k_extra "te";(decide +kernel))
  (apply Ex.ifT;k_extra "te";(rw [q2,q3];rfl))
  (apply Ex.ret;apply Ev.call2 (D := 14);(apply Ev.glo;rfl;exact gl_jump _);k_extra "ev";k_extra "ev";rotate_left 1;rfl;exact fun _=>rfl;exact fun _=>rfl;exact kp_jump _;(rintro _ _ ⟨t9,rfl⟩ e9;cases e9;exact Cp.ofI (c_jump _ _ _ _ t9 _ _ hR9 sa9) (by k_mem)))
theorem c_rdM1 (x n tl : Str) (ps : List Str) (r : Int) (tx : Tok) :
    Cb w mean mg mb 485 18 news (x.length ≤ 600 ∧ tl.length ≤ 600 ∧ (Txt.partition x (Str.ofString " ")).1 = n ∧ (Txt.partition x (Str.ofString " ")).2.1 = Str.ofString " " ∧ (Txt.partition x (Str.ofString " ")).2.2 = tl ∧ Txt.split tl (Str.ofString ", ") = ps ∧ (n == Str.ofString ".word") = false ∧ MoveR n ps r ∧ (ps.length : Int) = 2 ∧ ([Str.ofString "fence",Str.ofString "lui",Str.ofString "auipc",Str.ofString "jal"].any fun x=>x == n) = false ∧ (brL.any fun x=>x == n) = false ∧ ([Str.ofString "sb",Str.ofString "sh",Str.ofString "sw",Str.ofString "jalr"].any fun x=>x == n) = true) [.str x tx] (fun t=>.int r t) := by
  dsimp only [Cb]
  k_fill
  refine Cp.toI fun hpre=>?_
  obtain ⟨hx,htl,e1,e2,e3,hs9,q1,hR9,hl9,q2,q3,q4⟩ := hpre
  have hp9 : Txt.partition x (Str.ofString " ") = (n,Str.ofString " ",tl) := Prod.ext e1 (Prod.ext e2 e3)
  refine enter (D := 17) (binds := [(Str.ofString "text",.str x tx)]) (ρ := [(Str.ofString "text",.s x)]) (by k_is) (by k_is) (fun _=>BindsTo.of_eq rfl) (by rfl) (show Lg _ [(Str.ofString "text",.str x tx)] from (.cons (by first | exact rfl | exact ⟨_,rfl⟩) .nil)) rfl rfl rfl (by decide) ?_
  (apply Ex.part;k_extra "ev";exact hp9;rfl;omega;rotate_left 1;rfl;(exact ⟨_,fun _=>rfl⟩);(exact fun _=>rfl);(exact fun _=>rfl))
  (apply Ex.split;k_extra "ev";(exact hs9);rfl;omega;rotate_left 1;rfl;exact ⟨_,fun _=>rfl⟩;(exact fun _=>rfl);(intro D9 vs9 sa9))
  (apply Ex.ifF;k_extra "te";(exact q1))
  (apply Ex.ifF;k_extra "te";(decide +kernel))
  (apply Ex.ifF;k_extra "te";(rw [q2,q3];rfl))
  have hl8 : (vs9.length : Int) = 2 := by rw [idx_len sa9];exact hl9
  (apply Ex.ifT;k_extra "te";(rw [q4];rfl))
  (apply Ex.ret;apply Ev.call2 (D := 14);(apply Ev.glo;rfl;exact gl_moved _);k_extra "ev";k_extra "ev";rotate_left 1;rfl;exact fun _=>rfl;exact fun _=>rfl;exact kp_moved _;(rintro _ _ ⟨t9,rfl⟩ e9;cases e9;exact Cp.ofI (c_moved _ _ _ _ t9 _ _ hR9 sa9) (by k_mem)))
theorem c_rdM2 (x n tl : Str) (ps : List Str) (r : Int) (tx : Tok) :
    Cb w mean mg mb 485 18 news (x.length ≤ 600 ∧ tl.length ≤ 600 ∧ (Txt.partition x (Str.ofString " ")).1 = n ∧ (Txt.partition x (Str.ofString " ")).2.1 = Str.ofString " " ∧ (Txt.partition x (Str.ofString " ")).2.2 = tl ∧ Txt.split tl (Str.ofString ", ") = ps ∧ (n == Str.ofString ".word") = false ∧ MoveR n ps r ∧ (ps.length : Int) = 2 ∧ ([Str.ofString "fence",Str.ofString "lui",Str.ofString "auipc",Str.ofString "jal"].any fun x=>x == n) = false ∧ (brL.any fun x=>x == n) = false ∧ ([Str.ofString "sb",Str.ofString "sh",Str.ofString "sw",Str.ofString "jalr"].any fun x=>x == n) = false ∧ (feL.any fun x=>x == n) = true) [.str x tx] (fun t=>.int r t) := by
  dsimp only [Cb]
  k_fill
  refine Cp.toI fun hpre=>?_
  obtain ⟨hx,htl,e1,e2,e3,hs9,q1,hR9,hl9,q2,q3,q4,q5⟩ := hpre
  have hp9 : Txt.partition x (Str.ofString " ") = (n,Str.ofString " ",tl) := Prod.ext e1 (Prod.ext e2 e3)
  refine enter (D := 17) (binds := [(Str.ofString "text",.str x tx)]) (ρ := [(Str.ofString "text",.s x)]) (by k_is) (by k_is) (fun _=>BindsTo.of_eq rfl) (by rfl) (show Lg _ [(Str.ofString "text",.str x tx)] from (.cons (by first | exact rfl | exact ⟨_,rfl⟩) .nil)) rfl rfl rfl (by decide) ?_
  (apply Ex.part;k_extra "ev";exact hp9;rfl;omega;rotate_left 1;rfl;(exact ⟨_,fun _=>rfl⟩);(exact fun _=>rfl);(exact fun _=>rfl))
  (apply Ex.split;k_extra "ev";(exact hs9);rfl;omega;rotate_left 1;rfl;exact ⟨_,fun _=>rfl⟩;(exact fun _=>rfl);(intro D9 vs9 sa9))
  (apply Ex.ifF;k_extra "te";(exact q1))
  (apply Ex.ifF;k_extra "te";(decide +kernel))
  (apply Ex.ifF;k_extra "te";(rw [q2,q3];rfl))
  have hl8 : (vs9.length : Int) = 2 := by rw [idx_len sa9];exact hl9
  (apply Ex.ifT;k_extra "te";(rw [q4,q5];rfl))
  (apply Ex.ret;apply Ev.call2 (D := 14);(apply Ev.glo;rfl;exact gl_moved _);k_extra "ev";k_extra "ev";rotate_left 1;rfl;exact fun _=>rfl;exact fun _=>rfl;exact kp_moved _;(rintro _ _ ⟨t9,rfl⟩ e9;cases e9;exact Cp.ofI (c_moved _ _ _ _ t9 _ _ hR9 sa9) (by k_mem)))
theorem c_rdW (x n tl : Str) (ps : List Str) (r : Int) (tx : Tok) :
    Cb w mean mg mb 485 18 news (x.length ≤ 600 ∧ tl.length ≤ 600 ∧ (Txt.partition x (Str.ofString " ")).1 = n ∧ (Txt.partition x (Str.ofString " ")).2.1 = Str.ofString " " ∧ (Txt.partition x (Str.ofString " ")).2.2 = tl ∧ Txt.split tl (Str.ofString ", ") = ps ∧ (n == Str.ofString ".word") = false ∧ WorkR n ps r ∧ (ps.length : Int) = 3 ∧ ([Str.ofString "fence",Str.ofString "lui",Str.ofString "auipc",Str.ofString "jal"].any fun x=>x == n) = false ∧ (brL.any fun x=>x == n) = false) [.str x tx] (fun t=>.int r t) := by
  dsimp only [Cb]
  k_fill
  refine Cp.toI fun hpre=>?_
  obtain ⟨hx,htl,e1,e2,e3,hs9,q1,hR9,hl9,q2,q3⟩ := hpre
  have hp9 : Txt.partition x (Str.ofString " ") = (n,Str.ofString " ",tl) := Prod.ext e1 (Prod.ext e2 e3)
  refine enter (D := 17) (binds := [(Str.ofString "text",.str x tx)]) (ρ := [(Str.ofString "text",.s x)]) (by k_is) (by k_is) (fun _=>BindsTo.of_eq rfl) (by rfl) (show Lg _ [(Str.ofString "text",.str x tx)] from (.cons (by first | exact rfl | exact ⟨_,rfl⟩) .nil)) rfl rfl rfl (by decide) ?_
  (apply Ex.part;k_extra "ev";exact hp9;rfl;omega;rotate_left 1;rfl;(exact ⟨_,fun _=>rfl⟩);(exact fun _=>rfl);(exact fun _=>rfl))
  (apply Ex.split;k_extra "ev";(exact hs9);rfl;omega;rotate_left 1;rfl;exact ⟨_,fun _=>rfl⟩;(exact fun _=>rfl);(intro D9 vs9 sa9))
  (apply Ex.ifF;k_extra "te";(exact q1))
  (apply Ex.ifF;k_extra "te";(decide +kernel))
  (apply Ex.ifF;k_extra "te";(rw [q2,q3];rfl))
  have hl8 : (vs9.length : Int) = 3 := by rw [idx_len sa9];exact hl9
  (apply Ex.ifF;k_extra "te";(rfl))
  (apply Ex.ret;apply Ev.ifT;k_extra "te";rfl;apply Ev.call2 (D := 14);(apply Ev.glo;rfl;exact gl_worked _);k_extra "ev";k_extra "ev";rotate_left 1;rfl;exact fun _=>rfl;exact fun _=>rfl;exact kp_worked _;(rintro _ _ ⟨t9,rfl⟩ e9;cases e9;exact Cp.ofI (c_worked _ _ _ _ t9 _ _ hR9 sa9) (by k_mem)))
theorem c_rdX (x tl : Str) (v : Int) (tx : Tok) :
    Cb w mean mg mb 485 18 news (x.length ≤ 600 ∧ tl.length ≤ 600 ∧ (Txt.partition x (Str.ofString " ")).1 = Str.ofString ".word" ∧ (Txt.partition x (Str.ofString " ")).2.1 = Str.ofString " " ∧ (Txt.partition x (Str.ofString " ")).2.2 = tl ∧ (0 ≤ v ∧ v < 2 ^ 32) ∧ Txt.slice tl none (some 2) = Str.ofString "0x" ∧ Txt.slice tl (some 2) none = hexF v) [.str x tx] (fun t=>.int v t) := by
  dsimp only [Cb]
  k_fill
  refine Cp.toI fun hpre=>?_
  obtain ⟨hx,htl,e1,e2,e3,hv,hx0,hx1⟩ := hpre
  have hp9 : Txt.partition x (Str.ofString " ") = (Str.ofString ".word",Str.ofString " ",tl) := Prod.ext e1 (Prod.ext e2 e3)
  refine enter (D := 17) (binds := [(Str.ofString "text",.str x tx)]) (ρ := [(Str.ofString "text",.s x)]) (by k_is) (by k_is) (fun _=>BindsTo.of_eq rfl) (by rfl) (show Lg _ [(Str.ofString "text",.str x tx)] from (.cons (by first | exact rfl | exact ⟨_,rfl⟩) .nil)) rfl rfl rfl (by decide) ?_
  (apply Ex.part;k_extra "ev";exact hp9;rfl;omega;rotate_left 1;rfl;(exact ⟨_,fun _=>rfl⟩);(exact fun _=>rfl);(exact fun _=>rfl))
  (apply Ex.split;k_extra "ev";(rfl);rfl;omega;rotate_left 1;rfl;exact ⟨_,fun _=>rfl⟩;(exact fun _=>rfl);(intro D9 vs9 sa9))
  (apply Ex.ifT;k_extra "te";(rfl))
  (apply Ex.ret;apply Ev.call1 (D := 12);(apply Ev.glo;rfl;exact gl_unhexed _);k_extra "ev";rotate_left 1;rfl;exact fun _=>rfl;exact kp_unhexed _;(rintro _ ⟨t9,rfl⟩;exact Cp.ofI (c_unh v tl t9) ⟨hv,hx0,hx1,htl⟩))
theorem c_rd_ecall (tx : Tok) :
    Cb w mean mg mb 485 18 news (True) [.str (Str.ofString "ecall") tx] (fun t=>.int (115) t) := by
  dsimp only [Cb]
  k_fill
  refine Cp.toI fun hpre=>?_
  have hp9 : Txt.partition (Str.ofString "ecall") (Str.ofString " ") = (Str.ofString "ecall",Str.ofString "",Str.ofString "") := by decide +kernel
  refine enter (D := 17) (binds := [(Str.ofString "text",.str (Str.ofString "ecall") tx)]) (ρ := [(Str.ofString "text",.s (Str.ofString "ecall"))]) (by k_is) (by k_is) (fun _=>BindsTo.of_eq rfl) (by rfl) (show Lg _ [(Str.ofString "text",.str (Str.ofString "ecall") tx)] from (.cons (by first | exact rfl | exact ⟨_,rfl⟩) .nil)) rfl rfl rfl (by decide) ?_
  (apply Ex.part;k_extra "ev";exact hp9;rfl;decide;rotate_left 1;rfl;(exact ⟨_,fun _=>rfl⟩);(exact fun _=>rfl);(exact fun _=>rfl))
  (apply Ex.split;k_extra "ev";(rfl);rfl;decide;rotate_left 1;rfl;exact ⟨_,fun _=>rfl⟩;(exact fun _=>rfl);(intro D9 vs9 sa9))
  (apply Ex.ifF;k_extra "te";(rfl))
  (apply Ex.ifT;k_extra "te";(rfl))
  k_extra "ex1"
theorem c_rd_ebreak (tx : Tok) :
    Cb w mean mg mb 485 18 news (True) [.str (Str.ofString "ebreak") tx] (fun t=>.int (115 + 2 ^ Int.toNat 20) t) := by
  dsimp only [Cb]
  k_fill
  refine Cp.toI fun hpre=>?_
  have hp9 : Txt.partition (Str.ofString "ebreak") (Str.ofString " ") = (Str.ofString "ebreak",Str.ofString "",Str.ofString "") := by decide +kernel
  refine enter (D := 17) (binds := [(Str.ofString "text",.str (Str.ofString "ebreak") tx)]) (ρ := [(Str.ofString "text",.s (Str.ofString "ebreak"))]) (by k_is) (by k_is) (fun _=>BindsTo.of_eq rfl) (by rfl) (show Lg _ [(Str.ofString "text",.str (Str.ofString "ebreak") tx)] from (.cons (by first | exact rfl | exact ⟨_,rfl⟩) .nil)) rfl rfl rfl (by decide) ?_
  (apply Ex.part;k_extra "ev";exact hp9;rfl;decide;rotate_left 1;rfl;(exact ⟨_,fun _=>rfl⟩);(exact fun _=>rfl);(exact fun _=>rfl))
  (apply Ex.split;k_extra "ev";(rfl);rfl;decide;rotate_left 1;rfl;exact ⟨_,fun _=>rfl⟩;(exact fun _=>rfl);(intro D9 vs9 sa9))
  (apply Ex.ifF;k_extra "te";(rfl))
  (apply Ex.ifT;k_extra "te";(rfl))
  k_extra "ex1"
end
section
theorem c_decN {w : World} {mean : ExcName → Option Value} {mg mb : Str → Option Value} {news : List (Addr × Obj)} (v : Int) (tv : Tok) :
    CbK w mean mg mb 329 12 news ((0 ≤ v ∧ v < 2 ^ 32) ∧ nameF v = Str.ofString "") [.int v tv] (fun h₀ L m s Q=>∀ (h' : Heap) (tk' : Nat),Fr h₀ L h' m → News h₀ L h' news → Q .none { s with heap := h',toks := tk' }) := by
  dsimp only [CbK]
  k_fill
  intros
  rename_i hpre _ _ hret
  k_with_none
  have hv := hpre.1
  have hn := hpre.2
  clear hpre
  have hq : (nameF v == Str.ofString "") = true := by rw [hn];rfl
  k_with "eval Call Name cons nil" => ((with_reducible show wpAny _ _ (PySem.eval (PySem.Expr.Call (PySem.Expr.Name (PySem.Str.ofString "name_of") _) _ _ _) _) _ _ _);refine Call_ ?_)
  k_with "call ref cons nil" => ((with_reducible show wpAny _ _ (PySem.call (Value.ref 322) _ _) _ _ _);k_dflt (first | refine' cb_use (c_name _ _) ?k1 ?k2 ?k3 ?k4 ?k5 ?kK ?kp ?kd ?ku ?_);(case k1 | k2 | k3 | k4 | k5=>k_asm);(case kK=>first | exact rfl | assumption);(case kp=>assumption);(case kd=>ktr_room);(case ku=>ktr_units);intro t9 h9 tk9 F9 N9;(try dsimp only);(try k_fold))
  refine wpAny_call ?_
  k_dflt cell_enter
  (try (rename Fr _ _ _ _=>Fm9;replace Fm9 : Fr _ _ _ (fun y=>List.lookup y [(Str.ofString "word",.int v tv)]) := Fm9))
  k_steps
  all_goals (first | (refine' hret _ _ ?e3 ?e4;(case e3=>k_asm);(case e4=>k_asm)))
end
section
theorem c_tgtN {w : World} {mean : ExcName → Option Value} {mg mb : Str → Option Value} {news : List (Addr × Obj)} (v : Int) (tv : Tok) (b : Int) (tb : Tok) :
    Cb w mean mg mb 379 14 news ((0 ≤ v ∧ v < 2 ^ 32) ∧ nameF v = Str.ofString "") [.int v tv,.int b tb] (fun t=>.int (tgtF v b) t) := by
  dsimp only [Cb]
  k_fill
  intros
  rename_i hpre _ _ hret
  k_with_none
  have hv := hpre.1
  have hn := hpre.2
  clear hpre
  k_with "eval Call Name cons nil" => ((with_reducible show wpAny _ _ (PySem.eval (PySem.Expr.Call (PySem.Expr.Name (PySem.Str.ofString "decode") _) _ _ _) _) _ _ _);refine Call_ ?_)
  k_with "call ref cons nil" => ((with_reducible show wpAny _ _ (PySem.call (Value.ref 329) _ _) _ _ _);k_dflt (first | refine' cbk_use (c_decN _ _) ?k1 ?k2 ?k3 ?k4 ?k5 ?kK ?kp ?kd ?ku ?_);(case k1 | k2 | k3 | k4 | k5=>k_asm);(case kK=>first | exact rfl | assumption);(case kp=>exact ⟨by assumption,by assumption⟩);(case kd=>ktr_room);(case ku=>ktr_units);intro h9 tk9 F9 N9;(try dsimp only);(try k_fold))
  refine wpAny_call ?_
  k_dflt cell_enter
  (try (rename Fr _ _ _ _=>Fm9;replace Fm9 : Fr _ _ _ (fun y=>List.lookup y [(Str.ofString "at",.int b tb),(Str.ofString "word",.int v tv)]) := Fm9))
  k_steps
  all_goals (first | (refine' cb_retI hret ?e1 ?e2 ?e3;(case e2=>k_asm);(case e3=>first | k_asm | (refine' cb_drop ?cbN ?cbS;(case cbN=>assumption);(case cbS=>kcj_all)));(case e1=>exact tgtE0 hn)))
end
section
theorem c_tgtO {w : World} {mean : ExcName → Option Value} {mg mb : Str → Option Value} {news : List (Addr × Obj)} (v : Int) (tv : Tok) (b : Int) (tb : Tok) :
    Cb w mean mg mb 379 14 news ((0 ≤ v ∧ v < 2 ^ 32) ∧ nameF v ≠ Str.ofString "" ∧ formF (nameF v) ≠ Str.ofString "B" ∧ formF (nameF v) ≠ Str.ofString "J") [.int v tv,.int b tb] (fun t=>.int (tgtF v b) t) := by
  dsimp only [Cb]
  k_fill
  intros
  rename_i hpre _ _ hret
  k_with_none
  have hv := hpre.1
  have hn := hpre.2.1
  have hf := hpre.2.2
  clear hpre
  have q4 : ([Str.ofString "B",Str.ofString "J"].any fun x=>x == formF (nameF v)) = false := by simpa [Ne.symm hf.1,Ne.symm hf.2] using ⟨fun q=>hf.1 q.symm,fun q=>hf.2 q.symm⟩
  k_with "eval Call Name cons nil" => ((with_reducible show wpAny _ _ (PySem.eval (PySem.Expr.Call (PySem.Expr.Name (PySem.Str.ofString "decode") _) _ _ _) _) _ _ _);refine Call_ ?_)
  k_with "call ref cons nil" => ((with_reducible show wpAny _ _ (PySem.call (Value.ref 329) _ _) _ _ _);k_dflt (first | refine' cbk_use (c_dec _ _) ?k1 ?k2 ?k3 ?k4 ?k5 ?kK ?kp ?kd ?ku ?_);(case k1 | k2 | k3 | k4 | k5=>k_asm);(case kK=>first | exact rfl | assumption);(case kp=>exact ⟨by assumption,by assumption⟩);(case kd=>ktr_room);(case ku=>ktr_units);intro T9 d9 o9 tn9 l9 h9 tk9 kv9 hd9 lo9 F9 N9;(try dsimp only);(try k_fold))
  k_with "subscriptTail Name Subscript ref str" => ((with_reducible show wpAny _ _ (subscriptTail _ _ (Value.ref 16) (Value.str _ _)) _ _ _);k_dflt (refine' ins_item ?k1 ?k2 ?k3 ?k4 ?_;(case k1=>k_asm);(case k2=>k_asm);(case k3=>exact ins_name _ (by assumption));(case k4=>first | assumption | exact rfl));intro a9 b9 t9 u9 ht9)
  refine wpAny_call ?_
  k_dflt cell_enter
  (try (rename Fr _ _ _ _=>Fm9;replace Fm9 : Fr _ _ _ (fun y=>List.lookup y [(Str.ofString "at",.int b tb),(Str.ofString "word",.int v tv)]) := Fm9))
  k_steps
  all_goals (first | (refine' cb_retI hret ?e1 ?e2 ?e3;(case e2=>k_asm);(case e3=>first | k_asm | (refine' cb_drop ?cbN ?cbS;(case cbN=>assumption);(case cbS=>kcj_all)));(case e1=>exact tgtE1 hn hf)))
end
section
theorem c_tgtB {w : World} {mean : ExcName → Option Value} {mg mb : Str → Option Value} {news : List (Addr × Obj)} (v : Int) (tv : Tok) (b : Int) (tb : Tok) :
    Cb w mean mg mb 379 14 news ((0 ≤ v ∧ v < 2 ^ 32) ∧ nameF v ≠ Str.ofString "" ∧ formF (nameF v) = Str.ofString "B") [.int v tv,.int b tb] (fun t=>.int (tgtF v b) t) := by
  dsimp only [Cb]
  k_fill
  intros
  rename_i hpre _ _ hret
  k_with_none
  have hv := hpre.1
  have hn := hpre.2.1
  have hf := hpre.2.2
  clear hpre
  k_with "eval Call Name cons nil" => ((with_reducible show wpAny _ _ (PySem.eval (PySem.Expr.Call (PySem.Expr.Name (PySem.Str.ofString "decode") _) _ _ _) _) _ _ _);refine Call_ ?_)
  k_with "call ref cons nil" => ((with_reducible show wpAny _ _ (PySem.call (Value.ref 329) _ _) _ _ _);k_dflt (first | refine' cbk_use (c_dec _ _) ?k1 ?k2 ?k3 ?k4 ?k5 ?kK ?kp ?kd ?ku ?_);(case k1 | k2 | k3 | k4 | k5=>k_asm);(case kK=>first | exact rfl | assumption);(case kp=>exact ⟨by assumption,by assumption⟩);(case kd=>ktr_room);(case ku=>ktr_units);intro T9 d9 o9 tn9 l9 h9 tk9 kv9 hd9 lo9 F9 N9;(try dsimp only);(try k_fold);(have kw9 := kv_B kv9 hf);(obtain ⟨t0,t1,t2,e9⟩ := kw9);subst e9)
  k_with "subscriptTail Name Subscript ref str" => ((with_reducible show wpAny _ _ (subscriptTail _ _ (Value.ref 16) (Value.str _ _)) _ _ _);k_dflt (refine' ins_item ?k1 ?k2 ?k3 ?k4 ?_;(case k1=>k_asm);(case k2=>k_asm);(case k3=>exact ins_name _ (by assumption));(case k4=>first | assumption | exact rfl));intro a9 b9 t9 u9 ht9)
  k_with "subscriptTail Name Constant ref str" => (k_dflt (refine' dict_item ?k1 ?k2 ?k3 ?k5 ?_;(case k1=>k_asm);(case k2=>first | assumption | exact List.mem_cons_of_mem _ (by assumption) | exact List.mem_cons_of_mem _ (List.mem_cons_of_mem _ (by assumption)) | exact List.mem_cons_of_mem _ (List.mem_cons_of_mem _ (List.mem_cons_of_mem _ (by assumption))) | k_mem);(case k3=>assumption);(case k5=>rfl)))
  refine wpAny_call ?_
  k_dflt cell_enter
  (try (rename Fr _ _ _ _=>Fm9;replace Fm9 : Fr _ _ _ (fun y=>List.lookup y [(Str.ofString "at",.int b tb),(Str.ofString "word",.int v tv)]) := Fm9))
  k_steps
  all_goals (first | (refine' cb_retI hret ?e1 ?e2 ?e3;(case e2=>k_asm);(case e3=>first | k_asm | (refine' cb_drop ?cbN ?cbS;(case cbN=>assumption);(case cbS=>kcj_all)));(case e1=>exact tgtE2 hn hf)))
end
section
theorem c_tgtJ {w : World} {mean : ExcName → Option Value} {mg mb : Str → Option Value} {news : List (Addr × Obj)} (v : Int) (tv : Tok) (b : Int) (tb : Tok) :
    Cb w mean mg mb 379 14 news ((0 ≤ v ∧ v < 2 ^ 32) ∧ nameF v ≠ Str.ofString "" ∧ formF (nameF v) = Str.ofString "J") [.int v tv,.int b tb] (fun t=>.int (tgtF v b) t) := by
  dsimp only [Cb]
  k_fill
  intros
  rename_i hpre _ _ hret
  k_with_none
  have hv := hpre.1
  have hn := hpre.2.1
  have hf := hpre.2.2
  clear hpre
  k_with "eval Call Name cons nil" => ((with_reducible show wpAny _ _ (PySem.eval (PySem.Expr.Call (PySem.Expr.Name (PySem.Str.ofString "decode") _) _ _ _) _) _ _ _);refine Call_ ?_)
  k_with "call ref cons nil" => ((with_reducible show wpAny _ _ (PySem.call (Value.ref 329) _ _) _ _ _);k_dflt (first | refine' cbk_use (c_dec _ _) ?k1 ?k2 ?k3 ?k4 ?k5 ?kK ?kp ?kd ?ku ?_);(case k1 | k2 | k3 | k4 | k5=>k_asm);(case kK=>first | exact rfl | assumption);(case kp=>exact ⟨by assumption,by assumption⟩);(case kd=>ktr_room);(case ku=>ktr_units);intro T9 d9 o9 tn9 l9 h9 tk9 kv9 hd9 lo9 F9 N9;(try dsimp only);(try k_fold);(have kw9 := kv_J kv9 hf);(obtain ⟨t0,t1,e9⟩ := kw9);subst e9)
  k_with "subscriptTail Name Subscript ref str" => ((with_reducible show wpAny _ _ (subscriptTail _ _ (Value.ref 16) (Value.str _ _)) _ _ _);k_dflt (refine' ins_item ?k1 ?k2 ?k3 ?k4 ?_;(case k1=>k_asm);(case k2=>k_asm);(case k3=>exact ins_name _ (by assumption));(case k4=>first | assumption | exact rfl));intro a9 b9 t9 u9 ht9)
  k_with "subscriptTail Name Constant ref str" => (k_dflt (refine' dict_item ?k1 ?k2 ?k3 ?k5 ?_;(case k1=>k_asm);(case k2=>first | assumption | exact List.mem_cons_of_mem _ (by assumption) | exact List.mem_cons_of_mem _ (List.mem_cons_of_mem _ (by assumption)) | exact List.mem_cons_of_mem _ (List.mem_cons_of_mem _ (List.mem_cons_of_mem _ (by assumption))) | k_mem);(case k3=>assumption);(case k5=>rfl)))
  refine wpAny_call ?_
  k_dflt cell_enter
  (try (rename Fr _ _ _ _=>Fm9;replace Fm9 : Fr _ _ _ (fun y=>List.lookup y [(Str.ofString "at",.int b tb),(Str.ofString "word",.int v tv)]) := Fm9))
  k_steps
  all_goals (first | (refine' cb_retI hret ?e1 ?e2 ?e3;(case e2=>k_asm);(case e3=>first | k_asm | (refine' cb_drop ?cbN ?cbS;(case cbN=>assumption);(case cbS=>kcj_all)));(case e1=>exact tgtE3 hn hf)))
end
section
theorem c_tgt {w : World} {mean : ExcName → Option Value} {mg mb : Str → Option Value} {news : List (Addr × Obj)} (v : Int) (tv : Tok) (b : Int) (tb : Tok) : Cb w mean mg mb 379 14 news (0 ≤ v ∧ v < 2 ^ 32) [.int v tv,.int b tb] (fun t=>.int (tgtF v b) t) := by
  intro dp un gd cn cs a ccd cl outer A₀ base h₀ L m s Q E B F X N T hk hp hd hu hR
  by_cases hn : nameF v = Str.ofString ""
  · exact c_tgtN v tv b tb dp un gd cn cs a ccd cl outer A₀ base h₀ L m s Q E B F X N T hk ⟨hp,hn⟩ hd hu hR
  by_cases hB : formF (nameF v) = Str.ofString "B"
  · exact c_tgtB v tv b tb dp un gd cn cs a ccd cl outer A₀ base h₀ L m s Q E B F X N T hk ⟨hp,hn,hB⟩ hd hu hR
  by_cases hJ : formF (nameF v) = Str.ofString "J"
  · exact c_tgtJ v tv b tb dp un gd cn cs a ccd cl outer A₀ base h₀ L m s Q E B F X N T hk ⟨hp,hn,hJ⟩ hd hu hR
  · exact c_tgtO v tv b tb dp un gd cn cs a ccd cl outer A₀ base h₀ L m s Q E B F X N T hk ⟨hp,hn,hB,hJ⟩ hd hu hR
theorem tgt_lt (v b : Int) : tgtF v b < 2 ^ 32 := by
  unfold tgtF;split
  · decide
  · split
    · exact Int.emod_lt_of_pos _ (by decide)
    · split
      · exact Int.emod_lt_of_pos _ (by decide)
      · decide
end
section
noncomputable def atF (base : Int) (i : Nat) : Int := (base + 4 * (i : Int)) % 4294967296
theorem at_0 {base : Int} (h : 0 ≤ base ∧ base < 2 ^ 32) : atF base 0 = base := by unfold atF;omega
theorem at_next (base : Int) (i : Nat) : Builtin.bitAnd (atF base i + 4) 4294967295 = atF base (i + 1) := by rw [mask32];unfold atF;omega
theorem at_ok (base : Int) (i : Nat) : 0 ≤ atF base i ∧ atF base i < 2 ^ 32 := by unfold atF;omega
noncomputable def rowF (v a t : Int) : Str := if t < 0 then hexF a ++ Str.ofString ": " ++ hexF v ++ Str.ofString "  " ++ disF v else hexF a ++ Str.ofString ": " ++ hexF v ++ Str.ofString "  " ++ disF v ++ Str.ofString " -> " ++ hexF t
theorem row_len {v a t : Int} (h : 0 ≤ v ∧ v < 2 ^ 32) : (rowF v a t).length ≤ 200 := by
  have h1 := disF_len v h
  have e1 : (Str.ofString ": ").length = 2 := rfl
  have e2 : (Str.ofString "  ").length = 2 := rfl
  have e3 : (Str.ofString " -> ").length = 4 := rfl
  unfold rowF
  split <;> simp only [PySem.Str.length_append,hexF_len] <;> omega
noncomputable def rowsF (ws : List Int) (base : Int) (n : Nat) : List Str := (List.range n).map fun i=>rowF (ws.getD i 0) (atF base i) (tgtF (ws.getD i 0) (atF base i))
theorem rows_next (ws : List Int) (base : Int) (i : Nat) : rowsF ws base (i + 1) = rowsF ws base i ++ [rowF (ws.getD i 0) (atF base i) (tgtF (ws.getD i 0) (atF base i))] := by
  unfold rowsF;rw [List.range_succ,List.map_append];rfl
noncomputable def lstRows (ks : List Int) (base : Int) : List Str := rowsF (wordsF ks) base (wordsF ks).length ++ (if leftF ks = Str.ofString "" then [] else [hexF (atF base (wordsF ks).length) ++ Str.ofString ": " ++ leftF ks])
noncomputable def lstF (ks : List Int) (base : Int) : Str := if lstRows ks base = [] then Str.ofString "" else Txt.join (Str.ofString "\n") (lstRows ks base) ++ Str.ofString "\n"
theorem lst_b {ks : List Int} {base : Int} {n : Nat} (hk : ks.length ≤ 100) (hn : n ≤ (wordsF ks).length) (hW : ∀ v ∈ wordsF ks,0 ≤ v ∧ v < 2 ^ 32) : (∀ y ∈ rowsF (wordsF ks) base n,y.length ≤ 200) ∧ (rowsF (wordsF ks) base n).length ≤ 28 := by
  refine ⟨fun y hy=>?_,?_⟩
  · obtain ⟨i,hi,rfl⟩ := List.mem_map.mp hy
    have hl : i < (wordsF ks).length := Nat.lt_of_lt_of_le (List.mem_range.mp hi) hn
    refine row_len (hW _ ?_)
    rw [List.getD_eq_getElem?_getD,List.getElem?_eq_getElem hl]
    exact List.getElem_mem hl
  · have := words_len ks hk
    unfold rowsF
    rw [List.length_map,List.length_range];omega
noncomputable def lstJ (m₀ : Str → Option Value) (D : Addr) (ys : List Value) (R : Addr) (news : List (Addr × Obj)) (ws : List Int) (base : Int) (i : Nat) (m : Str → Option Value) (n : List (Addr × Obj)) : Prop :=
  ∃ o1 o2 o3 ta rs k,m = (fun y=>if y = Str.ofString "word" then o1 else if y = Str.ofString "row" then o2 else if y = Str.ofString "target" then o3 else if y = Str.ofString "at" then some (Value.int (atF base i) ta) else m₀ y) ∧ n = (D,PyProof.Rows.LCg.lst ys) :: (R,listOf (List.toArray rs) k) :: news ∧ StrsAre rs (rowsF ws base i) ∧ i ≤ ws.length
theorem lstJ.opI {m₀ : Str → Option Value} {D : Addr} {ys : List Value} {R : Addr} {news : List (Addr × Obj)} {ws : List Int} {base : Int} {i : Nat} {m : Str → Option Value} {n : List (Addr × Obj)} {P : Prop} {h9 g9 : Heap} {L9 : Addr} {I9 : Addr} {oI9 : Obj} (H : lstJ m₀ D ys R news ws base i m n) (F9 : Fr h9 L9 g9 m) (N9 : News h9 L9 g9 ((I9,oI9) :: n)) (off9 : ∀ p ∈ n,p.1 ≠ I9) (kk9 : ∀ o1 o2 o3 ta rs k,(StrsAre rs (rowsF ws base i)) → (i ≤ ws.length) → Fr h9 L9 g9 ((fun y=>if y = Str.ofString "word" then o1 else if y = Str.ofString "row" then o2 else if y = Str.ofString "target" then o3 else if y = Str.ofString "at" then some (Value.int (atF base i) ta) else m₀ y)) → News h9 L9 g9 ((I9,oI9) :: (D,PyProof.Rows.LCg.lst ys) :: (R,listOf (List.toArray rs) k) :: news) → (∀ p ∈ ((D,PyProof.Rows.LCg.lst ys) :: (R,listOf (List.toArray rs) k) :: news),p.1 ≠ I9) → P) : P := by
  obtain ⟨o1,o2,o3,ta,rs,k,em,en,r1,r2⟩ := H
  subst em
  subst en
  exact kk9 o1 o2 o3 ta rs k r1 r2 F9 N9 off9
theorem lstJ.opZ {m₀ : Str → Option Value} {D : Addr} {ys : List Value} {R : Addr} {news : List (Addr × Obj)} {ws : List Int} {base : Int} {i : Nat} {m : Str → Option Value} {n : List (Addr × Obj)} {P : Prop} {h9 g9 : Heap} {L9 : Addr} (H : lstJ m₀ D ys R news ws base i m n) (F9 : Fr h9 L9 g9 m) (N9 : News h9 L9 g9 (n)) (kk9 : ∀ o1 o2 o3 ta rs k,(StrsAre rs (rowsF ws base i)) → (i ≤ ws.length) → Fr h9 L9 g9 ((fun y=>if y = Str.ofString "word" then o1 else if y = Str.ofString "row" then o2 else if y = Str.ofString "target" then o3 else if y = Str.ofString "at" then some (Value.int (atF base i) ta) else m₀ y)) → News h9 L9 g9 ((D,PyProof.Rows.LCg.lst ys) :: (R,listOf (List.toArray rs) k) :: news) → P) : P := by
  obtain ⟨o1,o2,o3,ta,rs,k,em,en,r1,r2⟩ := H
  subst em
  subst en
  exact kk9 o1 o2 o3 ta rs k r1 r2 F9 N9
theorem lst_start {m₀ : Str → Option Value} {D R : Addr} {ys : List Value} {t : Tok} {k : Nat} {news : List (Addr × Obj)} {ws : List Int} {base : Int} (h1 : m₀ (Str.ofString "word") = none) (h2 : m₀ (Str.ofString "row") = none) (h3 : m₀ (Str.ofString "target") = none) (h4 : m₀ (Str.ofString "at") = some (.int base t)) (hb : 0 ≤ base ∧ base < 2 ^ 32) :
    lstJ m₀ D ys R news ws base 0 m₀ ((D,PyProof.Rows.LCg.lst ys) :: (R,listOf (List.toArray []) k) :: news) :=
  ⟨none,none,none,t,[],k,funext fun y=>by
    rw [at_0 hb]
    by_cases e1 : y = Str.ofString "word"
    · rw [if_pos e1,e1,h1]
    by_cases e2 : y = Str.ofString "row"
    · rw [if_neg e1,if_pos e2,e2,h2]
    by_cases e3 : y = Str.ofString "target"
    · rw [if_neg e1,if_neg e2,if_pos e3,e3,h3]
    by_cases e4 : y = Str.ofString "at"
    · rw [if_neg e1,if_neg e2,if_neg e3,if_pos e4,e4,h4]
    · rw [if_neg e1,if_neg e2,if_neg e3,if_neg e4],rfl,.nil,Nat.zero_le _⟩
theorem lst_next {m₀ : Str → Option Value} {D R : Addr} {ys rs : List Value} {t u : Tok} {k : Nat} {news : List (Addr × Obj)} {ws : List Int} {base : Int} {o1 o2 o3 o4 u1 u2 u3 : Option Value} {i : Nat} {z : Str} (hi : i < ws.length) (hs : StrsAre rs (rowsF ws base i))
    (hz : z = rowF (ws.getD i 0) (atF base i) (tgtF (ws.getD i 0) (atF base i))) :
    lstJ m₀ D ys R news ws base (i + 1) (fun y=>if y = Str.ofString "at" then some (.int (Builtin.bitAnd (atF base i + 4) 4294967295) u) else if y = Str.ofString "target" then u3 else if y = Str.ofString "row" then u2 else if y = Str.ofString "word" then u1 else if y = Str.ofString "word" then o1 else if y = Str.ofString "row" then o2 else if y = Str.ofString "target" then o3 else if y = Str.ofString "at" then o4 else m₀ y) ((D,PyProof.Rows.LCg.lst ys) :: (R,listOf (List.toArray (rs ++ [.str z t])) k) :: news) :=
  ⟨u1,u2,u3,u,_,_,funext fun y=>by
    rw [at_next]
    by_cases e1 : y = Str.ofString "word"
    · rw [e1];rfl
    by_cases e2 : y = Str.ofString "row"
    · rw [e2];rfl
    by_cases e3 : y = Str.ofString "target"
    · rw [e3];rfl
    by_cases e4 : y = Str.ofString "at"
    · rw [e4];rfl
    · simp only [if_neg e1,if_neg e2,if_neg e3,if_neg e4],rfl,by rw [rows_next,← hz];exact strs_snocK hs,hi⟩
theorem row_e1 {v a t : Int} (h : t < 0) : hexF a ++ Str.ofString ": " ++ hexF v ++ Str.ofString "  " ++ disF v = rowF v a t := by unfold rowF;rw [if_pos h]
theorem row_e2 {v a t : Int} (h : ¬ t < 0) : hexF a ++ Str.ofString ": " ++ hexF v ++ Str.ofString "  " ++ disF v ++ Str.ofString " -> " ++ hexF t = rowF v a t := by unfold rowF;rw [if_neg h]
theorem lst_r1 {ks : List Int} {base : Int} {ys : List Value} {n : Nat} (ia : IntsAre ys (wordsF ks)) (hn : ys.length = n) (h : (leftF ks != Str.ofString "") = true) : lstRows ks base = rowsF (wordsF ks) base n ++ [hexF (atF base n) ++ Str.ofString ": " ++ leftF ks] := by
  unfold lstRows
  rw [if_neg (c := leftF ks = Str.ofString "") (by simpa using h),← IntsAre.length ia,hn]
theorem lst_r2 {ks : List Int} {base : Int} {ys : List Value} {n : Nat} (ia : IntsAre ys (wordsF ks)) (hn : ys.length = n) (h : (leftF ks != Str.ofString "") = false) : lstRows ks base = rowsF (wordsF ks) base n := by
  unfold lstRows
  rw [if_pos (c := leftF ks = Str.ofString "") (by simpa using h),← IntsAre.length ia,hn,List.append_nil]
theorem lst_e1 {ks : List Int} {base : Int} {ys : List Value} {n : Nat} (ia : IntsAre ys (wordsF ks)) (hn : ys.length = n) (h : (leftF ks != Str.ofString "") = true) :
    Txt.join (Str.ofString "\n") (rowsF (wordsF ks) base n ++ [hexF (atF base n) ++ Str.ofString ": " ++ leftF ks]) ++ Str.ofString "\n" = lstF ks base := by
  unfold lstF
  rw [lst_r1 ia hn h,if_neg]
  intro q;exact List.cons_ne_nil _ _ (List.append_eq_nil_iff.mp q).2
theorem lst_e2 {ks : List Int} {base : Int} {ys rs : List Value} {n : Nat} (ia : IntsAre ys (wordsF ks)) (hn : ys.length = n) (hs : StrsAre rs (rowsF (wordsF ks) base n)) (h : (leftF ks != Str.ofString "") = false) (h2 : ¬ rs = []) :
    Txt.join (Str.ofString "\n") (rowsF (wordsF ks) base n) ++ Str.ofString "\n" = lstF ks base := by
  unfold lstF
  rw [lst_r2 ia hn h,if_neg]
  exact fun q=>h2 ((strs_nil hs).mpr q)
theorem lst_e3 {ks : List Int} {base : Int} {ys rs : List Value} {n : Nat} (ia : IntsAre ys (wordsF ks)) (hn : ys.length = n) (hs : StrsAre rs (rowsF (wordsF ks) base n)) (h : (leftF ks != Str.ofString "") = false) (h2 : rs = []) :
    Str.ofString "" = lstF ks base := by
  unfold lstF
  rw [lst_r2 ia hn h,if_pos]
  exact (strs_nil hs).mp h2
theorem snoc_no {α : Type} {l : List α} {x : α} {p : Prop} (h : l ++ [x] = []) : p := absurd (List.append_eq_nil_iff.mp h).2 (List.cons_ne_nil _ _)
end
section
theorem lat_next (base : Int) (i : Nat) : Int.fmod (atF base i + 4) (2 ^ Int.toNat 32) = atF base (i + 1) := by
  rw [Int.fmod_eq_emod_of_nonneg _ (by decide)]
  show (atF base i + 4) % 4294967296 = _
  unfold atF;omega
noncomputable def lrowsF (ws ls : List Int) (base : Int) : List Str := rowsF ws base ws.length ++ (if ls = [] then [] else [hexF (atF base ws.length) ++ Str.ofString ": .byte " ++ figT ls])
theorem lrows_b {ws : List Int} {base : Int} {n : Nat} (hk : ws.length ≤ 25) (hn : n ≤ ws.length) (hW : ∀ v ∈ ws,0 ≤ v ∧ v < 2 ^ 32) : (∀ y ∈ rowsF ws base n,y.length ≤ 200) ∧ (rowsF ws base n).length ≤ 25 := by
  refine ⟨fun y hy=>?_,?_⟩
  · obtain ⟨i,hi,rfl⟩ := List.mem_map.mp hy
    have hl : i < ws.length := Nat.lt_of_lt_of_le (List.mem_range.mp hi) hn
    refine row_len (hW _ ?_)
    rw [List.getD_eq_getElem?_getD,List.getElem?_eq_getElem hl]
    exact List.getElem_mem hl
  · unfold rowsF
    rw [List.length_map,List.length_range];omega
noncomputable def lrJ (m₀ : Str → Option Value) (a : Addr × Obj) (R : Addr) (news : List (Addr × Obj)) (ws : List Int) (base : Int) (i : Nat) (m : Str → Option Value) (n : List (Addr × Obj)) : Prop :=
  ∃ o1 o2 o3 o4 ta rs k,m = (fun y=>if y = Str.ofString "sum_now" then o1 else if y = Str.ofString "said" then o2 else if y = Str.ofString "goal" then o3 else if y = Str.ofString "row_now" then o4 else if y = Str.ofString "at" then some (Value.int (atF base i) ta) else m₀ y) ∧ n = a :: (R,listOf (List.toArray rs) k) :: news ∧ StrsAre rs (rowsF ws base i) ∧ i ≤ ws.length
theorem lrJ.opI {m₀ : Str → Option Value} {a : Addr × Obj} {R : Addr} {news : List (Addr × Obj)} {ws : List Int} {base : Int} {i : Nat} {m : Str → Option Value} {n : List (Addr × Obj)} {P : Prop} {h9 g9 : Heap} {L9 : Addr} {I9 : Addr} {oI9 : Obj} (H : lrJ m₀ a R news ws base i m n) (F9 : Fr h9 L9 g9 m) (N9 : News h9 L9 g9 ((I9,oI9) :: n)) (off9 : ∀ p ∈ n,p.1 ≠ I9) (kk9 : ∀ o1 o2 o3 o4 ta rs k,(StrsAre rs (rowsF ws base i)) → (i ≤ ws.length) → Fr h9 L9 g9 ((fun y=>if y = Str.ofString "sum_now" then o1 else if y = Str.ofString "said" then o2 else if y = Str.ofString "goal" then o3 else if y = Str.ofString "row_now" then o4 else if y = Str.ofString "at" then some (Value.int (atF base i) ta) else m₀ y)) → News h9 L9 g9 ((I9,oI9) :: a :: (R,listOf (List.toArray rs) k) :: news) → (∀ p ∈ (a :: (R,listOf (List.toArray rs) k) :: news),p.1 ≠ I9) → P) : P := by
  obtain ⟨o1,o2,o3,o4,ta,rs,k,em,en,r1,r2⟩ := H
  subst em
  subst en
  exact kk9 o1 o2 o3 o4 ta rs k r1 r2 F9 N9 off9
theorem lrJ.opZ {m₀ : Str → Option Value} {a : Addr × Obj} {R : Addr} {news : List (Addr × Obj)} {ws : List Int} {base : Int} {i : Nat} {m : Str → Option Value} {n : List (Addr × Obj)} {P : Prop} {h9 g9 : Heap} {L9 : Addr} (H : lrJ m₀ a R news ws base i m n) (F9 : Fr h9 L9 g9 m) (N9 : News h9 L9 g9 (n)) (kk9 : ∀ o1 o2 o3 o4 ta rs k,(StrsAre rs (rowsF ws base i)) → (i ≤ ws.length) → Fr h9 L9 g9 ((fun y=>if y = Str.ofString "sum_now" then o1 else if y = Str.ofString "said" then o2 else if y = Str.ofString "goal" then o3 else if y = Str.ofString "row_now" then o4 else if y = Str.ofString "at" then some (Value.int (atF base i) ta) else m₀ y)) → News h9 L9 g9 (a :: (R,listOf (List.toArray rs) k) :: news) → P) : P := by
  obtain ⟨o1,o2,o3,o4,ta,rs,k,em,en,r1,r2⟩ := H
  subst em
  subst en
  exact kk9 o1 o2 o3 o4 ta rs k r1 r2 F9 N9
theorem lr_start {m₀ : Str → Option Value} {a : Addr × Obj} {R : Addr} {t : Tok} {k : Nat} {news : List (Addr × Obj)} {ws : List Int} {base : Int} (h1 : m₀ (Str.ofString "sum_now") = none) (h2 : m₀ (Str.ofString "said") = none) (h3 : m₀ (Str.ofString "goal") = none) (h5 : m₀ (Str.ofString "row_now") = none) (h4 : m₀ (Str.ofString "at") = some (.int base t)) (hb : 0 ≤ base ∧ base < 2 ^ 32) :
    lrJ m₀ a R news ws base 0 m₀ (a :: (R,listOf (List.toArray []) k) :: news) :=
  ⟨none,none,none,none,t,[],k,funext fun y=>by
    rw [at_0 hb]
    by_cases e1 : y = Str.ofString "sum_now"
    · rw [if_pos e1,e1,h1]
    by_cases e2 : y = Str.ofString "said"
    · rw [if_neg e1,if_pos e2,e2,h2]
    by_cases e3 : y = Str.ofString "goal"
    · rw [if_neg e1,if_neg e2,if_pos e3,e3,h3]
    by_cases e5 : y = Str.ofString "row_now"
    · rw [if_neg e1,if_neg e2,if_neg e3,if_pos e5,e5,h5]
    by_cases e4 : y = Str.ofString "at"
    · rw [if_neg e1,if_neg e2,if_neg e3,if_neg e5,if_pos e4,e4,h4]
    · rw [if_neg e1,if_neg e2,if_neg e3,if_neg e5,if_neg e4],rfl,.nil,Nat.zero_le _⟩
theorem lr_next {m₀ : Str → Option Value} {a : Addr × Obj} {R : Addr} {rs : List Value} {t u : Tok} {k : Nat} {news : List (Addr × Obj)} {ws : List Int} {base : Int} {o1 o2 o3 o4 o5 u1 u2 u3 u4 : Option Value} {i : Nat} {z : Str} (hi : i < ws.length) (hs : StrsAre rs (rowsF ws base i))
    (hz : z = rowF (ws.getD i 0) (atF base i) (tgtF (ws.getD i 0) (atF base i))) :
    lrJ m₀ a R news ws base (i + 1) (fun y=>if y = Str.ofString "at" then some (.int (Int.fmod (atF base i + 4) (2 ^ Int.toNat 32)) u) else if y = Str.ofString "row_now" then u4 else if y = Str.ofString "goal" then u3 else if y = Str.ofString "said" then u2 else if y = Str.ofString "sum_now" then u1 else if y = Str.ofString "sum_now" then o1 else if y = Str.ofString "said" then o2 else if y = Str.ofString "goal" then o3 else if y = Str.ofString "row_now" then o4 else if y = Str.ofString "at" then o5 else m₀ y) (a :: (R,listOf (List.toArray (rs ++ [.str z t])) (k + 1)) :: news) :=
  ⟨u1,u2,u3,u4,u,_,_,funext fun y=>by
    rw [lat_next]
    by_cases e1 : y = Str.ofString "sum_now"
    · rw [e1];rfl
    by_cases e2 : y = Str.ofString "said"
    · rw [e2];rfl
    by_cases e3 : y = Str.ofString "goal"
    · rw [e3];rfl
    by_cases e5 : y = Str.ofString "row_now"
    · rw [e5];rfl
    by_cases e4 : y = Str.ofString "at"
    · rw [e4];rfl
    · simp only [if_neg e1,if_neg e2,if_neg e3,if_neg e5,if_neg e4],rfl,by rw [rows_next,← hz];exact strs_snocK hs,hi⟩
theorem lrow_e1 {v a t : Int} (h : ¬ t ≥ 0) : hexF a ++ Str.ofString ": " ++ hexF v ++ Str.ofString "  " ++ disF v ++ Str.ofString "" = rowF v a t := by
  have e : ∀ x : Str,x ++ Str.ofString "" = x := fun x=>PySem.Str.append_empty x
  rw [e];exact row_e1 (by omega)
theorem lrow_e2 {v a t : Int} (h : t ≥ 0) : hexF a ++ Str.ofString ": " ++ hexF v ++ Str.ofString "  " ++ disF v ++ (Str.ofString " -> " ++ hexF t) = rowF v a t := by
  rw [← PySem.Str.append_assoc];exact row_e2 (by omega)
theorem getD_in {ls : List Int} (h : ∀ v ∈ ls,0 ≤ v ∧ v < 256) (i : Nat) : 0 ≤ ls.getD i 0 ∧ ls.getD i 0 < 256 := by
  by_cases hi : i < ls.length
  · rw [List.getD_eq_getElem?_getD,List.getElem?_eq_getElem hi];exact h _ (List.getElem_mem hi)
  · rw [List.getD_eq_getElem?_getD,List.getElem?_eq_none (by omega)];decide
theorem drop1 {α : Type} {a x : α} {n : List α} : ∀ p ∈ x :: n,p ∈ a :: x :: n := fun _ h=>.tail _ h
theorem drop2 {α : Type} {a b x : α} {n : List α} : ∀ p ∈ x :: n,p ∈ a :: b :: x :: n := fun _ h=>.tail _ (.tail _ h)
theorem drop3 {α : Type} {a b c x : α} {n : List α} : ∀ p ∈ x :: n,p ∈ a :: b :: c :: x :: n := fun _ h=>.tail _ (.tail _ (.tail _ h))
theorem lr_e1 {ws ls : List Int} {base : Int} {vs us rs : List Value} {n : Nat} {t : Tok} (ia : IntsAre vs ws) (hn : vs.length = n) (hs : StrsAre rs (rowsF ws base n)) (il : IntsAre us ls) (h : ¬ us = []) :
    StrsAre (rs ++ [.str (hexF (atF base n) ++ Str.ofString ": .byte " ++ figT ls) t]) (lrowsF ws ls base) := by
  unfold lrowsF
  have h2 : ¬ ls = [] := by intro q;subst q;cases il;exact h rfl
  rw [if_neg h2,← IntsAre.length ia,hn]
  exact strs_snocK hs
theorem lr_e2 {ws ls : List Int} {base : Int} {vs us rs : List Value} {n : Nat} (ia : IntsAre vs ws) (hn : vs.length = n) (hs : StrsAre rs (rowsF ws base n)) (il : IntsAre us ls) (h : us = []) : StrsAre rs (lrowsF ws ls base) := by
  unfold lrowsF
  have h2 : ls = [] := by subst h;cases il;rfl
  rw [if_pos h2,← IntsAre.length ia,hn,List.append_nil]
  exact hs
end
section
theorem c_ops {w : World} {mean : ExcName → Option Value} {mg mb : Str → Option Value} {news : List (Addr × Obj)} (v : Int) (d : Addr) (o : Obj) (l : List (Str × Value)) (tn : Tok) :
    CbK w mean mg mb 365 12 news ((0 ≤ v ∧ v < 2 ^ 32) ∧ nameF v ≠ Str.ofString "" ∧ (d,o) ∈ news ∧ o.IsDictOf (PySem.strKind PySem.Challenge.rw_nm0011_01.row.prog w) l ∧ kvAll v l) [.str (nameF v) tn,.ref d] (OpsK news (opsF v)) := by
  intro dp un gd cn cs a ccd cl outer A₀ base h₀ L m s Q E B F X N T hk hp hd hu hR
  obtain ⟨hv,hn,hm,ho,hl⟩ := hp
  rcases hl with ⟨e,hl⟩ | ⟨e,hl⟩ | ⟨e,hl⟩ | ⟨e,hl⟩ | ⟨e,hl⟩ | ⟨e,hl⟩ | ⟨e,hl⟩ | ⟨e,hl⟩ | ⟨e,hl⟩
  · refine c_opsR v d o l tn dp un gd cn cs a ccd cl outer A₀ base h₀ L m s Q E B F X N T hk ⟨hv,hn,e,hm,ho,hl⟩ hd hu ?_
    have e2 : opsF v = [regF (fldF v 7),regF (fldF v 15),regF (fldF v 20)] := by unfold opsF;rw [e,if_pos rfl]
    rw [e2] at hR;exact hR
  · by_cases hp : placeF (nameF v) = true
    · refine c_opsI0 v d o l tn dp un gd cn cs a ccd cl outer A₀ base h₀ L m s Q E B F X N T hk ⟨hv,hn,e,hm,ho,hl,hp⟩ hd hu ?_
      have e2 : opsF v = [regF (fldF v 7),Str.ofString (toString (immI v)) ++ Str.ofString "(" ++ regF (fldF v 15) ++ Str.ofString ")"] := by unfold opsF;rw [e,if_neg (by decide),if_pos rfl,if_pos hp]
      rw [e2] at hR;exact hR
    · have hp : placeF (nameF v) = false := by simpa using hp
      refine c_opsI1 v d o l tn dp un gd cn cs a ccd cl outer A₀ base h₀ L m s Q E B F X N T hk ⟨hv,hn,e,hm,ho,hl,hp⟩ hd hu ?_
      have e2 : opsF v = [regF (fldF v 7),regF (fldF v 15),Str.ofString (toString (immI v))] := by unfold opsF;rw [e,if_neg (by decide),if_pos rfl,if_neg (by rw [hp];decide)]
      rw [e2] at hR;exact hR
  · refine c_opsH v d o l tn dp un gd cn cs a ccd cl outer A₀ base h₀ L m s Q E B F X N T hk ⟨hv,hn,e,hm,ho,hl⟩ hd hu ?_
    have e2 : opsF v = [regF (fldF v 7),regF (fldF v 15),Str.ofString (toString (immH v))] := by unfold opsF;rw [e,if_neg (by decide),if_neg (by decide),if_pos rfl]
    rw [e2] at hR;exact hR
  · refine c_opsS v d o l tn dp un gd cn cs a ccd cl outer A₀ base h₀ L m s Q E B F X N T hk ⟨hv,hn,e,hm,ho,hl⟩ hd hu ?_
    have e2 : opsF v = [regF (fldF v 20),Str.ofString (toString (immS v)) ++ Str.ofString "(" ++ regF (fldF v 15) ++ Str.ofString ")"] := by unfold opsF;rw [e,if_neg (by decide),if_neg (by decide),if_neg (by decide),if_pos rfl]
    rw [e2] at hR;exact hR
  · refine c_opsB v d o l tn dp un gd cn cs a ccd cl outer A₀ base h₀ L m s Q E B F X N T hk ⟨hv,hn,e,hm,ho,hl⟩ hd hu ?_
    have e2 : opsF v = [regF (fldF v 15),regF (fldF v 20),Str.ofString (toString (immB v))] := by unfold opsF;rw [e,if_neg (by decide),if_neg (by decide),if_neg (by decide),if_neg (by decide),if_pos rfl]
    rw [e2] at hR;exact hR
  · refine c_opsU v d o l tn dp un gd cn cs a ccd cl outer A₀ base h₀ L m s Q E B F X N T hk ⟨hv,hn,e,hm,ho,hl⟩ hd hu ?_
    have e2 : opsF v = [regF (fldF v 7),Str.ofString (toString (immU v))] := by unfold opsF;rw [e,if_neg (by decide),if_neg (by decide),if_neg (by decide),if_neg (by decide),if_neg (by decide),if_pos rfl]
    rw [e2] at hR;exact hR
  · refine c_opsJ v d o l tn dp un gd cn cs a ccd cl outer A₀ base h₀ L m s Q E B F X N T hk ⟨hv,hn,e,hm,ho,hl⟩ hd hu ?_
    have e2 : opsF v = [regF (fldF v 7),Str.ofString (toString (immJ v))] := by unfold opsF;rw [e,if_neg (by decide),if_neg (by decide),if_neg (by decide),if_neg (by decide),if_neg (by decide),if_neg (by decide),if_pos rfl]
    rw [e2] at hR;exact hR
  · refine c_opsF v d o l tn dp un gd cn cs a ccd cl outer A₀ base h₀ L m s Q E B F X N T hk ⟨hv,hn,e,hm,ho,hl⟩ hd hu ?_
    have e2 : opsF v = [fsetF ((immF v).fdiv (2 ^ Int.toNat 4)),fsetF (Builtin.bitAnd (immF v) 15)] := by unfold opsF;rw [e,if_neg (by decide),if_neg (by decide),if_neg (by decide),if_neg (by decide),if_neg (by decide),if_neg (by decide),if_neg (by decide),if_pos rfl]
    rw [e2] at hR;exact hR
  · refine c_opsE v d o l tn dp un gd cn cs a ccd cl outer A₀ base h₀ L m s Q E B F X N T hk ⟨hv,hn,e,hm,ho,hl⟩ hd hu ?_
    have e2 : opsF v = [] := by unfold opsF;rw [e,if_neg (by decide),if_neg (by decide),if_neg (by decide),if_neg (by decide),if_neg (by decide),if_neg (by decide),if_neg (by decide),if_neg (by decide)]
    rw [e2] at hR;exact hR
end
section
theorem c_dis1 {w : World} {mean : ExcName → Option Value} {mg mb : Str → Option Value} {news : List (Addr × Obj)} (v : Int) (tv : Tok) :
    Cb w mean mg mb 372 14 news ((0 ≤ v ∧ v < 2 ^ 32) ∧ nameF v ≠ Str.ofString "") [.int v tv] (fun t=>.str (disF v) t) := by
  dsimp only [Cb]
  k_fill
  intros
  rename_i hpre _ _ hret
  k_with_none
  have hv := hpre.1
  have hn := hpre.2
  clear hpre
  have q1 := name_len v hn
  have q2 := dis_join hv
  have q3 : (Str.ofString " ").length = 1 := rfl
  have q4 : (nameF v == Str.ofString "") = false := by simpa using hn
  k_with "eval Call Name cons nil" => ((with_reducible show wpAny _ _ (PySem.eval (PySem.Expr.Call (PySem.Expr.Name (PySem.Str.ofString "decode") _) _ _ _) _) _ _ _);refine Call_ ?_)
  k_with "call ref cons nil" => ((with_reducible show wpAny _ _ (PySem.call (Value.ref 329) _ _) _ _ _);k_dflt (first | refine' cbk_use (c_dec _ _) ?k1 ?k2 ?k3 ?k4 ?k5 ?kK ?kp ?kd ?ku ?_);(case k1 | k2 | k3 | k4 | k5=>k_asm);(case kK=>first | exact rfl | assumption);(case kp=>exact ⟨by assumption,by assumption⟩);(case kd=>ktr_room);(case ku=>ktr_units);intro T9 d9 o9 tn9 l9 h9 tk9 kv9 hd9 lo9 F9 N9;(try dsimp only);(try k_fold))
  k_with "eval Call Name cons nil" => ((with_reducible show wpAny _ _ (PySem.eval (PySem.Expr.Call (PySem.Expr.Name (PySem.Str.ofString "operands") _) _ _ _) _) _ _ _);refine Call_ ?_)
  k_with "call ref cons nil" => ((with_reducible show wpAny _ _ (PySem.call (Value.ref 365) _ _) _ _ _);k_dflt (first | refine' cbk_use (c_ops v d9 o9 l9 _) ?k1 ?k2 ?k3 ?k4 ?k5 ?kK ?kp ?kd ?ku ?_);(case k1 | k2 | k3 | k4 | k5=>k_asm);(case kK=>first | exact rfl | assumption);(case kp=>(refine ⟨?m1,?m2,?m3,?m4,?m5⟩;(case m1=>assumption);(case m2=>assumption);(case m3=>exact List.mem_cons_of_mem _ (.head _));(case m4=>assumption);(case m5=>assumption)));(case kd=>ktr_room);(case ku=>ktr_units);intro D9 vs9 n9 h9 tk9 sa9 F9 N9;(try dsimp only);(try k_fold))
  k_with "add" => (k_dflt (refine' add_strC ?k1 ?_;(case k1=>((try simp only [PySem.Str.length_append]);omega)));intro t9 k9)
  k_with "compareOp Eq ref ref" => (k_dflt (refine' eq_nilN ?k1 ?k2 ?k3 ?k4 ?_;(case k1=>k_asm);(case k3=>k_mem);(case k2=>k_mem);(case k4=>ktr_units)))
  k_with "call builtin:str.join cons nil" => (k_dflt (refine' join_ops ?k1 ?k2 ?k3 ?k4 ?k5 ?k6 ?_;(case k1=>k_asm);(case k2=>k_mem);(case k3=>assumption);(case k4=>decide);(case k5=>exact (ops_weight _ (by assumption)).1);(case k6=>exact Nat.le_trans (ops_weight _ (by assumption)).2 (by decide)));intro t9 k9)
  refine wpAny_call ?_
  k_dflt cell_enter
  (try (rename Fr _ _ _ _=>Fm9;replace Fm9 : Fr _ _ _ (fun y=>List.lookup y [(Str.ofString "word",.int v tv)]) := Fm9))
  k_steps
  all_goals (first | (refine' cb_retS hret ?e1 ?e2 ?e3;(case e2=>k_asm);(case e3=>first | k_asm | (refine' cb_drop ?cbN ?cbS;(case cbN=>assumption);(case cbS=>kcj_all)));(case e1=>first | exact dis_e1 hn (by assumption) (by assumption) | exact dis_e2 hn (by assumption) (by assumption))))
end
section
theorem c_dis2 {w : World} {mean : ExcName → Option Value} {mg mb : Str → Option Value} {news : List (Addr × Obj)} (v : Int) (tv : Tok) :
    Cb w mean mg mb 372 14 news ((0 ≤ v ∧ v < 2 ^ 32) ∧ nameF v = Str.ofString "") [.int v tv] (fun t=>.str (disF v) t) := by
  dsimp only [Cb]
  k_fill
  intros
  rename_i hpre _ _ hret
  k_with_none
  have hv := hpre.1
  have hn := hpre.2
  clear hpre
  have q1 := hexF_len v
  have q3 : (Str.ofString ".word 0x").length = 8 := rfl
  k_with "eval Call Name cons nil" => ((with_reducible show wpAny _ _ (PySem.eval (PySem.Expr.Call (PySem.Expr.Name (PySem.Str.ofString "decode") _) _ _ _) _) _ _ _);refine Call_ ?_)
  k_with "call ref cons nil" => ((with_reducible show wpAny _ _ (PySem.call (Value.ref 329) _ _) _ _ _);k_dflt (first | refine' cbk_use (c_decN _ _) ?k1 ?k2 ?k3 ?k4 ?k5 ?kK ?kp ?kd ?ku ?_);(case k1 | k2 | k3 | k4 | k5=>k_asm);(case kK=>first | exact rfl | assumption);(case kp=>exact ⟨by assumption,by assumption⟩);(case kd=>ktr_room);(case ku=>ktr_units);intro h9 tk9 F9 N9;(try dsimp only);(try k_fold))
  k_with "eval Call Name cons nil" => ((with_reducible show wpAny _ _ (PySem.eval (PySem.Expr.Call (PySem.Expr.Name (PySem.Str.ofString "hexed") _) _ _ _) _) _ _ _);refine Call_ ?_)
  k_with "call ref cons nil" => ((with_reducible show wpAny _ _ (PySem.call (Value.ref 339) _ _) _ _ _);k_dflt (first | refine' cb_use (c_hexed _ _ _) ?k1 ?k2 ?k3 ?k4 ?k5 ?kK ?kp ?kd ?ku ?_);(case k1 | k2 | k3 | k4 | k5=>k_asm);(case kK=>first | exact rfl | assumption);(case kp=>assumption);(case kd=>ktr_room);(case ku=>ktr_units);intro t9 h9 tk9 F9 N9;(try dsimp only);(try k_fold))
  k_with "add" => (k_dflt (refine' add_strC ?k1 ?_;(case k1=>((try simp only [PySem.Str.length_append]);omega)));intro t9 k9)
  refine wpAny_call ?_
  k_dflt cell_enter
  (try (rename Fr _ _ _ _=>Fm9;replace Fm9 : Fr _ _ _ (fun y=>List.lookup y [(Str.ofString "word",.int v tv)]) := Fm9))
  k_steps
  all_goals (first | (refine' cb_retS hret ?e1 ?e2 ?e3;(case e2=>k_asm);(case e3=>first | k_asm | (refine' cb_drop ?cbN ?cbS;(case cbN=>assumption);(case cbS=>kcj_all)));(case e1=>exact dis_e0 hn)))
end
section
theorem c_dis {w : World} {mean : ExcName → Option Value} {mg mb : Str → Option Value} {news : List (Addr × Obj)} (v : Int) (tv : Tok) : Cb w mean mg mb 372 14 news (0 ≤ v ∧ v < 2 ^ 32) [.int v tv] (fun t=>.str (disF v) t) := by
  intro dp un gd cn cs a ccd cl outer A₀ base h₀ L m s Q E B F X N T hk hp hd hu hR
  by_cases hn : nameF v = Str.ofString ""
  · exact c_dis2 v tv dp un gd cn cs a ccd cl outer A₀ base h₀ L m s Q E B F X N T hk ⟨hp,hn⟩ hd hu hR
  · exact c_dis1 v tv dp un gd cn cs a ccd cl outer A₀ base h₀ L m s Q E B F X N T hk ⟨hp,hn⟩ hd hu hR
end
section
open PySem.Calls
section
variable {g : G}
theorem Ev.ifSc {t a b : Expr} {pos : Pos} {q : Bool} {x y : Str} (h : Te g t q) (h1 : q = true → Ev g a (.s x)) (h2 : q = false → Ev g b (.s y)) : Ev g (.IfExp t a b pos) (.s (bif q then x else y)) := .mk fun c m s Q E o hl F N hQ =>
  IfExp_ (h.run c m s _ E _ o hl F N rfl fun h' tk' F' N'=>by
    cases q with
    | true=>exact (h1 rfl).run c m { s with heap := h',toks := tk' } _ E o hl F' N' hQ
    | false=>exact (h2 rfl).run c m { s with heap := h',toks := tk' } _ E o hl F' N' hQ)
theorem Ev.call3 {f : Str} {p pos : Pos} {a : Addr} {e e2 e3 : Expr} {D : Nat} {u u2 u3 r : PV} (hf : Ev g (.Name f p) (.v (.ref a))) (h1 : Ev g e u) (h2 : Ev g e2 u2) (h3 : Ev g e3 u3) (hC : ∀ x y z,u.Is x → u2.Is y → u3.Is z → Cp g.w g.mean g.mg g.mb a D g.N [x,y,z] r) (hD : decide (D ≤ g.D) = true) (hs : ∀ env,starEach [e,e2,e3] env = [(false,eval e env),(false,eval e2 env),(false,eval e3 env)]) (hs2 : ∀ env,starEach [e2,e3] env = [(false,eval e2 env),(false,eval e3 env)]) (hs3 : ∀ env,starEach [e3] env = [(false,eval e3 env)]) (hk : keepIn (hd.heap_39 g.w.params) (.ref a) = true) : Ev g (.Call (.Name f p) [e,e2,e3] [] pos) r := .mk fun c m s Q E o hl F N hQ =>
  Call_ (hf.run c m s _ E o hl F N fun x h' tk' e1 F' N'=>(show x = .ref a from e1) ▸ callWith_K (o.X.keeps F'.keep) hk (args_cons (h1.run c m { s with heap := h',toks := tk' } _ E o hl F' N' fun y h2' tk2 hy F2 N2=>args_cons (h2.run c m { s with heap := h2',toks := tk2 } _ E o hl F2 N2 fun y2 h3' tk3 hy2 F3 N3=>args_cons (h3.run c m { s with heap := h3',toks := tk3 } _ E o hl F3 N3 fun y3 h4' tk4 hy3 F4 N4=>args_nil ⟨o.X.keeps F4.keep,by
    have hd := of_decide_eq_true hD
    exact hC y y2 y3 hy hy2 hy3 _ _ _ _ _ _ _ _ _ _ _ _ _ m { s with heap := h4',toks := tk4 } Q E o.B F4 o.X N4 o.T o.k (by have := o.d;omega) (by have := o.u;omega) fun z h5 tk5 hz F5 N5=>hQ z h5 tk5 hz F5 N5⟩) (by rw [hs3];rfl)) (by rw [hs2,hs3])) (by rw [hs,hs2])) (by rw [hs,hs2]) (by rw [hs2];rfl)) rfl
end
theorem gi_MASK (P : Params) : gint P (Str.ofString "WORD_MASK") 4294967295 = true := by kernel_rfl
theorem gk_hexed (P : Params) : nsIn (hd.heap_39 P) mainGlobals (Str.ofString "hexed") = some (some (.ref 339)) := by kernel_rfl
theorem kk_hexed (P : Params) : keepIn (hd.heap_39 P) (.ref 339) = true := by kernel_rfl
theorem gk_lhexed (P : Params) : nsIn (hd.heap_39 P) mainGlobals (Str.ofString "_law_hexed") = some (some (.ref 454)) := by kernel_rfl
theorem kk_lhexed (P : Params) : keepIn (hd.heap_39 P) (.ref 454) = true := by kernel_rfl
theorem gk_dis (P : Params) : nsIn (hd.heap_39 P) mainGlobals (Str.ofString "disassemble") = some (some (.ref 372)) := by kernel_rfl
theorem kk_dis (P : Params) : keepIn (hd.heap_39 P) (.ref 372) = true := by kernel_rfl
theorem gk_tgt (P : Params) : nsIn (hd.heap_39 P) mainGlobals (Str.ofString "target_of") = some (some (.ref 379)) := by kernel_rfl
theorem kk_tgt (P : Params) : keepIn (hd.heap_39 P) (.ref 379) = true := by kernel_rfl
theorem gk_ltgt (P : Params) : nsIn (hd.heap_39 P) mainGlobals (Str.ofString "_law_target") = some (some (.ref 492)) := by kernel_rfl
theorem kk_ltgt (P : Params) : keepIn (hd.heap_39 P) (.ref 492) = true := by kernel_rfl
theorem gk_one (P : Params) : nsIn (hd.heap_39 P) mainGlobals (Str.ofString "_law_is_one") = some (some (.ref 437)) := by kernel_rfl
theorem kk_one (P : Params) : keepIn (hd.heap_39 P) (.ref 437) = true := by kernel_rfl
theorem gk_readl (P : Params) : nsIn (hd.heap_39 P) mainGlobals (Str.ofString "_law_read") = some (some (.ref 485)) := by kernel_rfl
theorem kk_readl (P : Params) : keepIn (hd.heap_39 P) (.ref 485) = true := by kernel_rfl
end
section
open PyProof.Rows.LCg PySem.Calls
theorem row_eb {v a t : Int} : (bif decide (t < 0) then hexF a ++ Str.ofString ": " ++ hexF v ++ Str.ofString "  " ++ disF v else hexF a ++ Str.ofString ": " ++ hexF v ++ Str.ofString "  " ++ disF v ++ Str.ofString " -> " ++ hexF t) = rowF v a t := by
  by_cases h : t < 0
  · rw [decide_eq_true h];exact row_e1 h
  · rw [decide_eq_false h];exact row_e2 h
theorem c_lst {w : World} {mean : ExcName → Option Value} {mg mb : Str → Option Value} {news : List (Addr × Obj)} (B : Array UInt8) (tb : Tok) (ks : List Int) (base : Int) (tbb : Tok) :
    Cb w mean mg mb 403 20 news (KBw.bInts B = ks ∧ ks.length ≤ 100 ∧ (∀ v ∈ wordsF ks,0 ≤ v ∧ v < 2 ^ 32) ∧ 0 ≤ base ∧ base < 2 ^ 32) [.bytes B tb,.int base tbb] (fun t=>.str (lstF ks base) t) := by
  dsimp only [Cb]
  k_fill
  intros
  rename_i hpre _ _ hret
  k_with_none
  k_with "bn" => first
    | exact Bn.add
    | exact Bn.sub
    | (apply Bn.mulR;decide +kernel)
    | (apply Bn.div;decide +kernel)
    | (apply Bn.mod;decide +kernel)
    | (apply Bn.pow;decide +kernel)
    | (apply Bn.shr;decide +kernel)
    | exact Bn.and
  k_with "ev" => first
    | exact Ev.int
    | exact Ev.str
    | (apply Ev.loc;rfl;rfl)
    | (apply Ev.neg;k_extra "ev")
    | (apply Ev.bin;k_extra "ev";k_extra "ev";k_extra "bn")
  k_with "cm" => first
    | exact Cm.lt
    | exact Cm.le
    | exact Cm.eqI
    | exact Cm.eqS
    | exact Cm.neS
  k_with "te" => first
    | (apply Te.cmp;k_extra "ev";k_extra "ev";k_extra "cm";rfl)
    | (apply Te.and2;k_extra "te";(intro _;k_extra "te"))
    | (apply Te.and3;k_extra "te";(intro _;k_extra "te");(intro _ _;k_extra "te"))
  k_with "bn" => first
    | (apply Bn.addS;((try simp only [PySem.Str.length_append,hexF_len]);omega))
  k_with "ev" => first
    | (refine' Ev.call2 (D := 1) ?zf ?za0 ?za1 ?zc ?zd ?zs0 ?zs1 ?zk;(case zf=>(apply Ev.glo;rfl;exact gk_hexed _));(case za0=>k_extra "ev");(case za1=>k_extra "ev");(case zd=>rfl);(case zs0=>exact fun _=>rfl);(case zs1=>exact fun _=>rfl);(case zk=>exact kk_hexed _);(case zc=>(rintro _ _ ⟨t0,rfl⟩ ⟨t1,rfl⟩;exact Cp.ofS (c_hexed _ _ _) (by first | assumption | exact ⟨Int.not_lt.mp (of_decide_eq_false (by assumption)),tgt_lt _ _⟩))))
    | (refine' Ev.call1 (D := 14) ?zf ?za0 ?zc ?zd ?zs0 ?zk;(case zf=>(apply Ev.glo;rfl;exact gk_dis _));(case za0=>k_extra "ev");(case zd=>rfl);(case zs0=>exact fun _=>rfl);(case zk=>exact kk_dis _);(case zc=>(rintro _ ⟨t0,rfl⟩;exact Cp.ofS (c_dis _ _) (by assumption))))
    | (refine' Ev.call2 (D := 14) ?zf ?za0 ?za1 ?zc ?zd ?zs0 ?zs1 ?zk;(case zf=>(apply Ev.glo;rfl;exact gk_tgt _));(case za0=>k_extra "ev");(case za1=>k_extra "ev");(case zd=>rfl);(case zs0=>exact fun _=>rfl);(case zs1=>exact fun _=>rfl);(case zk=>exact kk_tgt _);(case zc=>(rintro _ _ ⟨t0,rfl⟩ ⟨t1,rfl⟩;exact Cp.ofI (c_tgt _ _ _ _) (by assumption))))
    | (apply Ev.gloI;rfl;exact gi_MASK _)
    | (apply Ev.ifSc;k_extra "te";(intro hq9;k_extra "ev");(intro hq9;k_extra "ev"))
  k_with "wk9" => (k_dflt ((case k1=>k_asm);(case k2=>k_asm);(case k3=>k_asm);(case k4=>first | k_asm | exact news_tail (by assumption));(case k5=>k_asm);(case kK=>first | exact rfl | assumption);(case kd=>ktr_room);(case ku=>ktr_units)))
  k_with "brE" => ((first | (k_dflt (refine' ev_walkI (D := 14) ?h ?hl ?k1 ?k2 ?k3 ?k4 ?k5 ?kK ?kd ?ku ?_;k_extra "wk9";(case hl=>exact Locs.int (x := Str.ofString "target") rfl (Locs.str (x := Str.ofString "row") rfl (Locs.int (x := Str.ofString "word") rfl (Locs.int (x := Str.ofString "at") rfl (Locs.nil')))));(case h=>k_extra "ev"))) | (k_dflt (refine' ev_walkS (D := 14) ?h ?hl ?k1 ?k2 ?k3 ?k4 ?k5 ?kK ?kd ?ku ?_;k_extra "wk9";(case hl=>exact Locs.int (x := Str.ofString "target") rfl (Locs.str (x := Str.ofString "row") rfl (Locs.int (x := Str.ofString "word") rfl (Locs.int (x := Str.ofString "at") rfl (Locs.nil')))));(case h=>k_extra "ev"))) | (k_dflt (refine' ev_walkI (D := 14) ?h ?hl ?k1 ?k2 ?k3 ?k4 ?k5 ?kK ?kd ?ku ?_;k_extra "wk9";(case hl=>exact Locs.str (x := Str.ofString "row") rfl (Locs.int (x := Str.ofString "word") rfl (Locs.int (x := Str.ofString "at") rfl (Locs.nil'))));(case h=>k_extra "ev"))) | (k_dflt (refine' ev_walkS (D := 14) ?h ?hl ?k1 ?k2 ?k3 ?k4 ?k5 ?kK ?kd ?ku ?_;k_extra "wk9";(case hl=>exact Locs.str (x := Str.ofString "row") rfl (Locs.int (x := Str.ofString "word") rfl (Locs.int (x := Str.ofString "at") rfl (Locs.nil'))));(case h=>k_extra "ev"))) | (k_dflt (refine' ev_walkI (D := 14) ?h ?hl ?k1 ?k2 ?k3 ?k4 ?k5 ?kK ?kd ?ku ?_;k_extra "wk9";(case hl=>exact Locs.int (x := Str.ofString "word") rfl (Locs.int (x := Str.ofString "at") rfl (Locs.nil')));(case h=>k_extra "ev"))) | (k_dflt (refine' ev_walkS (D := 14) ?h ?hl ?k1 ?k2 ?k3 ?k4 ?k5 ?kK ?kd ?ku ?_;k_extra "wk9";(case hl=>exact Locs.int (x := Str.ofString "word") rfl (Locs.int (x := Str.ofString "at") rfl (Locs.nil')));(case h=>k_extra "ev"))) | (k_dflt (refine' ev_walkI (D := 14) ?h ?hl ?k1 ?k2 ?k3 ?k4 ?k5 ?kK ?kd ?ku ?_;k_extra "wk9";(case hl=>exact Locs.int (x := Str.ofString "at") rfl (Locs.str (x := Str.ofString "last") rfl (Locs.nil')));(case h=>k_extra "ev"))) | (k_dflt (refine' ev_walkS (D := 14) ?h ?hl ?k1 ?k2 ?k3 ?k4 ?k5 ?kK ?kd ?ku ?_;k_extra "wk9";(case hl=>exact Locs.int (x := Str.ofString "at") rfl (Locs.str (x := Str.ofString "last") rfl (Locs.nil')));(case h=>k_extra "ev"))) | (k_dflt (refine' ev_walkI (D := 14) ?h ?hl ?k1 ?k2 ?k3 ?k4 ?k5 ?kK ?kd ?ku ?_;k_extra "wk9";(case hl=>exact Locs.int (x := Str.ofString "at") rfl (Locs.nil'));(case h=>k_extra "ev"))) | (k_dflt (refine' ev_walkS (D := 14) ?h ?hl ?k1 ?k2 ?k3 ?k4 ?k5 ?kK ?kd ?ku ?_;k_extra "wk9";(case hl=>exact Locs.int (x := Str.ofString "at") rfl (Locs.nil'));(case h=>k_extra "ev"))));intro t9 h9 tk9 F9 N9;(try dsimp only))
  k_with "eval BinOp BinOp Add Call" => (k_extra "brE")
  k_with "eval BinOp BinOp Add Name" => (k_extra "brE")
  k_with "eval BinOp BinOp BitAnd Name" => (k_extra "brE")
  k_with "eval IfExp Compare Name BinOp" => (k_extra "brE")
  have hB := hpre.1
  have hk := hpre.2.1
  have hW := hpre.2.2.1
  have hb := hpre.2.2.2
  clear hpre
  have p1 := leftF_len hB
  have p2 : (Str.ofString ": ").length = 2 := rfl
  have p3 : (Str.ofString "\n").length = 1 := rfl
  have p4 : (Str.ofString "  ").length = 2 := rfl
  have p5 : (Str.ofString " -> ").length = 4 := rfl
  k_with "eval Call Name cons nil" => ((with_reducible show wpAny _ _ (PySem.eval (PySem.Expr.Call (PySem.Expr.Name (PySem.Str.ofString "words_of") _) _ _ _) _) _ _ _);refine Call_ ?_)
  k_with "call ref cons nil" => ((with_reducible show wpAny _ _ (PySem.call (Value.ref 384) _ _) _ _ _);k_dflt (first | refine' cbk_use (c_words _ _ ks) ?k1 ?k2 ?k3 ?k4 ?k5 ?kK ?kp ?kd ?ku ?_);(case k1 | k2 | k3 | k4 | k5=>k_asm);(case kK=>first | exact rfl | assumption);(case kp=>exact ⟨hB,hk⟩);(case kd=>ktr_room);(case ku=>ktr_units);intro D9 ys9 h9 tk9 ia9 io9 F9 N9;(try dsimp only);(try k_fold))
  k_with "eval Call Name cons nil" => ((with_reducible show wpAny _ _ (PySem.eval (PySem.Expr.Call (PySem.Expr.Name (PySem.Str.ofString "left_octets") _) _ _ _) _) _ _ _);refine Call_ ?_)
  k_with "call ref cons nil" => ((with_reducible show wpAny _ _ (PySem.call (Value.ref 389) _ _) _ _ _);k_dflt (first | refine' cb_use (c_left _ _ ks) ?k1 ?k2 ?k3 ?k4 ?k5 ?kK ?kp ?kd ?ku ?_);(case k1 | k2 | k3 | k4 | k5=>k_asm);(case kK=>first | exact rfl | assumption);(case kp=>exact ⟨hB,hk⟩);(case kd=>ktr_room);(case ku=>ktr_units);intro t9 h9 tk9 F9 N9;(try dsimp only);(try k_fold))
  k_with "for" => ((rename Fr _ _ _ _=>lF');(k_dflt (refine' for_made lF' ?_)))
  k_with "ne" => ((with_reducible show wpAny _ _ (compareOp CmpOp.NotEq (Value.ref _) (Value.ref _)) _ _ _);k_dflt (refine' ne_nilN ?k1 ?k2 ?k3 ?k4 ?_;(case k1=>k_asm);(case k3=>k_mem);(case k2=>k_mem);(case k4=>ktr_units)))
  k_with "call builtin:list.append cons nil" => (k_dflt (refine' append_mine ?k1 ?k2 ?k3 ?ku ?_;(case k1=>k_asm);(case k2=>k_asm);(case k3=>(rw [idx_len hs9];exact Nat.le_trans (lst_b hk hl9 hW).2 (by decide)));(case ku=>first | exact Upd.tail (Ne.symm (off9 _ (.tail _ (.head _)))) (Upd.tail (Ne.symm (io9 _ (.head _))) (Upd.head fun p9 hp9=>Nat.ne_of_lt ((by assumption : ∀ p ∈ news,p.1 < _) p9 hp9))) | exact Upd.tail (Ne.symm (io9 _ (.head _))) (Upd.head fun p9 hp9=>Nat.ne_of_lt ((by assumption : ∀ p ∈ news,p.1 < _) p9 hp9))));intro h9 F9 N9)
  k_with "eval Call Name cons nil" => ((with_reducible show wpAny _ _ (PySem.eval (PySem.Expr.Call (PySem.Expr.Name (PySem.Str.ofString "disassemble") _) _ _ _) _) _ _ _);refine Call_ ?_)
  k_with "call ref cons nil" => ((with_reducible show wpAny _ _ (PySem.call (Value.ref 372) _ _) _ _ _);k_dflt (first | refine' cb_use (c_dis _ _) ?k1 ?k2 ?k3 ?k4 ?k5 ?kK ?kp ?kd ?ku ?_);(case k1 | k2 | k3 | k4 | k5=>k_asm);(case kK=>first | exact rfl | assumption);(case kp=>assumption);(case kd=>ktr_room);(case ku=>ktr_units);intro t9 h9 tk9 F9 N9;(try dsimp only);(try k_fold))
  k_with "eval Call Name cons nil" => ((with_reducible show wpAny _ _ (PySem.eval (PySem.Expr.Call (PySem.Expr.Name (PySem.Str.ofString "hexed") _) _ _ _) _) _ _ _);refine Call_ ?_)
  k_with "call ref cons nil" => ((with_reducible show wpAny _ _ (PySem.call (Value.ref 339) _ _) _ _ _);k_dflt (first | refine' cb_use (c_hexed _ _ _) ?k1 ?k2 ?k3 ?k4 ?k5 ?kK ?kp ?kd ?ku ?_);(case k1 | k2 | k3 | k4 | k5=>k_asm);(case kK=>first | exact rfl | assumption);(case kp=>first | assumption | exact ⟨Int.not_lt.mp (by with_reducible assumption),tgt_lt _ _⟩);(case kd=>ktr_room);(case ku=>ktr_units);intro t9 h9 tk9 F9 N9;(try dsimp only);(try k_fold))
  k_with "eval Call Name cons nil" => ((with_reducible show wpAny _ _ (PySem.eval (PySem.Expr.Call (PySem.Expr.Name (PySem.Str.ofString "target_of") _) _ _ _) _) _ _ _);refine Call_ ?_)
  k_with "call ref cons nil" => ((with_reducible show wpAny _ _ (PySem.call (Value.ref 379) _ _) _ _ _);k_dflt (first | refine' cb_use (c_tgt _ _ _ _) ?k1 ?k2 ?k3 ?k4 ?k5 ?kK ?kp ?kd ?ku ?_);(case k1 | k2 | k3 | k4 | k5=>k_asm);(case kK=>first | exact rfl | assumption);(case kp=>assumption);(case kd=>ktr_room);(case ku=>ktr_units);intro t9 h9 tk9 F9 N9;(try dsimp only);(try k_fold))
  k_with "call builtin:str.join cons nil" => (k_dflt (refine' join_rows ?k1 ?k2 ?k3 ?k4 ?k5 ?_;(case k1=>k_asm);(case k2=>k_mem);(case k3=>first | exact hs9 | exact strs_snocK hs9);(case k4=>decide);(case k5=>first | exact ⟨(lst_b hk hl9 hW).1,Nat.le_trans (lst_b hk hl9 hW).2 (by decide)⟩ | exact src_b2 (lst_b hk hl9 hW) (by simp only [PySem.Str.length_append,hexF_len];omega)));intro z9 t9 k9)
  k_with "ForLst" => (k_dflt (refine' ForLst.mk' _ ys9 _ _ _ (lstJ _ D9 ys9 _ news (wordsF ks) base) rfl rfl ?k1 ?k2 ?k3 ?k4 ?kst ?kfn;(case k1=>k_asm);(case k2=>k_asm);(case k3=>(refine lst_start (t := tbb) ?_ ?_ ?_ ?_ hb <;> rfl));(case k4=>(rintro i9 m9 n9 ⟨o19,o29,o39,ta9,rs9,k9,e1,e2,e3,e4⟩;subst e2;exact .head _));(case' kst=>(intro i9 v9 m9 n9 h9 tk9 I9 oI9 hv9 hJ9 F9 N9 off9;refine lstJ.opI hJ9 F9 N9 off9 ?_;clear F9 N9 off9 hJ9;intro o19 o29 o39 ta9 rs9 k9 hs9 hl9 F9 N9 off9;obtain ⟨t9,e9,g9⟩ := int_at ia9 i9 v9 hv9;subst e9;have hw9 := hW _ (List.mem_of_getElem? g9);have q1 := disF_len _ hw9;have ha9 := at_ok base i9;have hi9 := (List.getElem?_eq_some_iff.mp g9).1;(try dsimp only)));(case' kfn=>(intro h9 tk9 m9 n9 F9 N9 hJ9;refine lstJ.opZ hJ9 F9 N9 ?_;clear F9 N9 hJ9;intro o19 o29 o39 ta9 rs9 k9 hs9 hl9 F9 N9;have ha9 := at_ok base ys9.length;(try dsimp only)))))
  k_with "StepE" => (k_dflt (refine' StepE.mk' _ _ _ _ rfl ?k1 ?k2 ?k3 ?kj;(case k1=>k_asm);(case k2=>k_asm);(case k3=>first | exact off9 | exact off_upd off9);(case kj=>exact lst_next hi9 hs9 row_eb)))
  k_with "add" => (k_dflt (refine' add_strC ?k1 ?_;(case k1=>((try simp only [PySem.Str.length_append,hexF_len]);omega)));intro t9 k9)
  refine wpAny_call ?_
  k_dflt cell_enter
  (try (rename Fr _ _ _ _=>Fm9;replace Fm9 : Fr _ _ _ (fun y=>List.lookup y [(Str.ofString "base",.int base tbb),(Str.ofString "octets",.bytes B tb)]) := Fm9))
  k_steps
  all_goals (first | (refine' cb_retS hret ?e1 ?e2 ?e3;(case e2=>k_asm);(case e3=>first | k_asm | (refine' cb_drop ?cbN ?cbS;(case cbN=>assumption);(case cbS=>kcj_all)));(case e1=>first | exact lst_e1 ia9 rfl (by assumption) | exact lst_e2 ia9 rfl hs9 (by assumption) (by assumption) | exact lst_e3 ia9 rfl hs9 (by assumption) (by assumption) | exact snoc_no (by assumption))))
end
section
open PyProof.V PyProof.Rows PySem.Spec
theorem sym_tab {prog : Program} {w : World} {s : Shared} {h₀ : Heap} {L S : Addr} {oS : Obj} {news : List (Addr × Obj)} {a b c d : Int} {t1 t2 t3 t4 : Tok} (N : News h₀ L s.heap news) (hm : (S,oS) ∈ news) (hd : oS.IsDictOf (PySem.strKind prog w) [(Str.ofString "end",.int a t1),(Str.ofString "b",.int b t2),(Str.ofString "a",.int c t3),(Str.ofString "no",.int d t4)]) (lo : (S == sysModules) = false) :
    TabAt (PySem.strKind prog w) PyData.str s.heap S [(.str (Str.ofString "end"),.int a),(.str (Str.ofString "b"),.int b),(.str (Str.ofString "a"),.int c),(.str (Str.ofString "no"),.int d)] :=
  ⟨lo,_,kda_dict N hm hd,.cons (Flat.int _ _) (.cons (Flat.int _ _) (.cons (Flat.int _ _) (.cons (Flat.int _ _) .nil)))⟩
noncomputable def NeAll (i : Addr) : List (Addr × Obj) → Prop
  | []=>True
  | p :: r=>@Ne Nat p.1 i ∧ NeAll i r
theorem NeAll.get {i : Addr} {l : List (Addr × Obj)} (h : NeAll i l) : ∀ p ∈ l,@Ne Nat p.1 i := by
  induction l with
  | nil=>intro p hp;cases hp
  | cons q r ih =>
    intro p hp
    rcases List.mem_cons.mp hp with rfl | hp
    · exact h.1
    · exact ih h.2 p hp
theorem NeAll.lt {i : Addr} {l : List (Addr × Obj)} (h : AllLt i l) : NeAll i l := by
  have := kst_ltOf h
  clear h
  induction l with
  | nil=>trivial
  | cons q r ih=>exact ⟨Nat.ne_of_lt (this q (.head _)),ih fun p hp=>this p (.tail _ hp)⟩
theorem unr_mid {h₀ : Heap} {L : Addr} {s₁ : Shared} {rest : (Str → Option Value) → List (Addr × Obj) → Prop} {i : Addr} {o : Obj} {pre post : List (Addr × Obj)} {h' : Heap} {tk : Nat} {m' : Str → Option Value} (F : Fr h₀ L h' m') (N : News h₀ L h' (pre ++ (i,o) :: post)) (a : NeAll i pre) (off : NeAll i post) (r : rest m' (pre ++ post)) :
    UnrEndW h₀ L s₁ [(i,o)] rest { s₁ with heap := h',toks := tk } :=
  ⟨h',tk,m',pre ++ post,rfl,F,fun p hp=>N p (by
    rcases List.mem_append.mp hp with hp | hp
    · obtain rfl := List.mem_singleton.mp hp
      exact List.mem_append_right _ (.head _)
    · rcases List.mem_append.mp hp with hp | hp
      · exact List.mem_append_left _ hp
      · exact List.mem_append_right _ (.tail _ hp)),fun p hp q hq=>by
    rcases List.mem_singleton.mp hq with rfl
    rcases List.mem_append.mp hp with hp | hp
    · exact a.get p hp
    · exact off.get p hp,r⟩
theorem vat_hit {k : Int} {v : Value} {r : List (Int × Value)} : valueAt ((k,v) :: r) k = some v := by simp [valueAt]
theorem vat_skip {k k' : Int} {v : Value} {r : List (Int × Value)} (h : k' ≠ k) : valueAt ((k',v) :: r) k = valueAt r k := by simp [valueAt,h]
theorem vat_nil {k : Int} : valueAt ([] : List (Int × Value)) k = none := rfl
section
variable {prog : Program} {w : World} {A : Around} {E : Value → Shared → Prop} {s : Shared} {h₀ : Heap} {L d x : Addr} {m : Str → Option Value} {news : List (Addr × Obj)} {g : Obj → List (Addr × Obj)} {o : Obj} {kvs : List (Int × Value)} {k : Int} {v : Value} {t : Tok} {Q : Value → Shared → Prop}
theorem setdef_hit (N : News h₀ L s.heap news) (hp : (d,o) ∈ news) (hd : o.IsDictOf (PySem.intKind prog w) ((k,v) :: kvs)) (lo : (d == sysModules) = false) (hsz : ((k,v) :: kvs).length ≤ 10) (h : Q v { s with toks := s.toks + 1 }) :
    wpAny (model prog w) A (call (.builtin "dict.setdefault") [.ref d,.int k t,.ref x]) Q E s :=
  kob_setdef_there N hp hd lo (intKind_is _ _ _ _) (PySem.F.args_dict_setdefault_3 _ _ _) vat_hit (Nat.le_trans hsz (by rw [sizeLine_eq];decide)) h
theorem setdef_new (F : Fr h₀ L s.heap m) (N : News h₀ L s.heap news) (U : UpdF d o news g) (hd : o.IsDictOf (PySem.intKind prog w) kvs) (lo : (d == sysModules) = false) (hl : valueAt kvs k = none) (hsz : kvs.length ≤ 10)
    (h : ∀ h' o',Fr h₀ L h' m → News h₀ L h' (g o') → o'.IsDictOf (PySem.intKind prog w) (kvs ++ [(k,.ref x)]) → Q (.ref x) { s with heap := h',toks := s.toks + 1 }) :
    wpAny (model prog w) A (call (.builtin "dict.setdefault") [.ref d,.int k t,.ref x]) Q E s :=
  kob_setdef_new F N U hd lo (intKind_is _ _ _ _) (PySem.F.args_dict_setdefault_3 _ _ _) hl (Nat.le_trans hsz (by rw [sizeLine_eq];decide)) fun h' o' F' N' hd'=>h h' o' F' N' (by rw [← stored_absent hl];exact hd')
end
inductive Named (news : List (Addr × Obj)) : List (Int × Value) → List (Int × List Str) → Prop
  | nil : Named news [] []
  | cons {A : Addr} {vs : List Value} {c : Nat} {k : Int} {xs : List Str} {kvs : List (Int × Value)} {tbl : List (Int × List Str)} : (A,listOf (List.toArray vs) c) ∈ news → StrsAre vs xs → Named news kvs tbl → Named news ((k,.ref A) :: kvs) ((k,xs) :: tbl)
noncomputable def lookT : List (Int × List Str) → Int → List Str
  | [],_=>[]
  | (k,xs) :: r,x=>if k = x then xs else lookT r x
theorem Named.get {tl : List (Addr × Obj)} {kvs : List (Int × Value)} {tbl : List (Int × List Str)} (H : Named tl kvs tbl) (x : Int) (D : Addr) :
    ∃ X vs c,(valueAt kvs x).getD (.ref D) = .ref X ∧ ((X,listOf (List.toArray vs) c) ∈ (D,listOf (List.toArray []) 0) :: tl) ∧ StrsAre vs (lookT tbl x) := by
  induction H with
  | nil=>exact ⟨D,[],0,rfl,.head _,.nil⟩
  | @cons A vs c k xs kvs tbl hm hs r ih =>
    unfold lookT
    by_cases h : k = x
    · subst h;rw [if_pos rfl,vat_hit];exact ⟨A,vs,c,rfl,.tail _ hm,hs⟩
    · rw [if_neg h,vat_skip h];exact ih
noncomputable def TblOk (tbl : List (Int × List Str)) : Prop := ∀ p ∈ tbl,p.2.length ≤ 3 ∧ ∀ y ∈ p.2,y.length ≤ 3
theorem lookT_ok {tbl : List (Int × List Str)} (h : TblOk tbl) (x : Int) : (lookT tbl x).length ≤ 3 ∧ ∀ y ∈ lookT tbl x,y.length ≤ 3 := by
  induction tbl with
  | nil=>exact ⟨Nat.zero_le _,fun y hy=>by cases hy⟩
  | cons p r ih =>
    obtain ⟨k,xs⟩ := p
    unfold lookT
    split
    · exact h _ (.head _)
    · exact ih fun q hq=>h q (.tail _ hq)
noncomputable def slotF (base : Int) (i : Nat) : Int := Builtin.bitAnd (base + 4 * (i : Int)) 4294967295
noncomputable abbrev marks (xs : List Str) : List Str := xs.map fun y=>y ++ Str.ofString ":"
noncomputable def symUpTo (tbl : List (Int × List Str)) (base : Int) (ls : List Str) : Nat → List Str
  | 0=>[]
  | i + 1=>symUpTo tbl base ls i ++ marks (lookT tbl (slotF base i)) ++ [ls.getD i (Str.ofString "")]
noncomputable def symF (tbl : List (Int × List Str)) (base : Int) (ls : List Str) : Str := if symUpTo tbl base ls ls.length = [] then Str.ofString "" else Txt.join (Str.ofString "\n") (symUpTo tbl base ls ls.length) ++ Str.ofString "\n"
noncomputable def LinesOk (x : Str) : Prop := x.length ≤ 40400 ∧ (Txt.lines x).length ≤ 10 ∧ ∀ y ∈ Txt.lines x,y.length ≤ 150
theorem marks_ok {xs : List Str} (h : xs.length ≤ 3 ∧ ∀ y ∈ xs,y.length ≤ 3) (j : Nat) : (marks (xs.take j)).length ≤ 3 ∧ ∀ y ∈ marks (xs.take j),y.length ≤ 200 := by
  refine ⟨by rw [List.length_map,List.length_take];omega,fun y hy=>?_⟩
  obtain ⟨z,hz,rfl⟩ := List.mem_map.mp hy
  have := h.2 z (List.mem_of_mem_take hz)
  have e : (Str.ofString ":").length = 1 := rfl
  rw [PySem.Str.length_append];omega
theorem getD_le {ls : List Str} (h : ∀ y ∈ ls,y.length ≤ 150) (i : Nat) : (ls.getD i (Str.ofString "")).length ≤ 150 := by
  rw [List.getD_eq_getElem?_getD]
  cases e : ls[i]? with
  | none=>exact Nat.zero_le _
  | some x=>exact h x (List.mem_of_getElem? e)
theorem symUp_ok {tbl : List (Int × List Str)} {base : Int} {ls : List Str} (h : TblOk tbl) (hl : ∀ y ∈ ls,y.length ≤ 150) : ∀ i : Nat,(∀ y ∈ symUpTo tbl base ls i,y.length ≤ 200) ∧ (symUpTo tbl base ls i).length ≤ 4 * i := by
  intro i
  induction i with
  | zero=>exact ⟨fun y hy=>(by cases hy),Nat.le_refl _⟩
  | succ i ih =>
    have m := marks_ok (lookT_ok h (slotF base i)) (lookT tbl (slotF base i)).length
    rw [List.take_length] at m
    refine ⟨fun y hy=>?_,?_⟩
    · rcases List.mem_append.mp hy with hy | hy
      · rcases List.mem_append.mp hy with hy | hy
        · exact ih.1 y hy
        · exact m.2 y hy
      · rw [List.mem_singleton.mp hy];have := getD_le hl i;omega
    · show (symUpTo tbl base ls i ++ marks (lookT tbl (slotF base i)) ++ [ls.getD i (Str.ofString "")]).length ≤ _
      rw [List.length_append,List.length_append,List.length_singleton]
      have := ih.2
      have := m.1
      omega
theorem sym_b {tbl : List (Int × List Str)} {base : Int} {ls : List Str} (h : TblOk tbl) (hl : ls.length ≤ 10 ∧ ∀ y ∈ ls,y.length ≤ 150) {i : Nat} (hi : i ≤ ls.length) : (∀ y ∈ symUpTo tbl base ls i,y.length ≤ 200) ∧ (symUpTo tbl base ls i).length ≤ 200 := by
  have := symUp_ok (base := base) h hl.2 i
  exact ⟨this.1,by omega⟩
theorem str_at {vs : List Value} {ws : List Str} (h : StrsAre vs ws) (i : Nat) (v : Value) (e : vs[i]? = some v) : ∃ t,v = .str (ws.getD i (Str.ofString "")) t ∧ i < ws.length := by
  obtain ⟨y,t,rfl,e2⟩ := h.item i v e
  exact ⟨t,by rw [List.getD_eq_getElem?_getD,e2];rfl,(List.getElem?_eq_some_iff.mp e2).1⟩
theorem sa_len {vs : List Value} {l : List Str} (h : StrsAre vs l) : vs.length = l.length := h.length
theorem updR {R : Addr} {o o' : Obj} {tl : List (Addr × Obj)} (h2 : ∀ p ∈ tl,@Ne Nat p.1 R) : ∀ {pre : List (Addr × Obj)},NeAll R pre → Upd R o o' (pre ++ (R,o) :: tl) (pre ++ (R,o') :: tl)
  | [],_=>Upd.head h2
  | _ :: _,h=>Upd.tail h.1 (updR h2 h.2)
section
variable {prog : Program} {w : World} {A : Around} {E : Value → Shared → Prop} {s : Shared} {h₀ : Heap} {L d R D : Addr} {m : Str → Option Value} {news tl rest : List (Addr × Obj)} {oR od : Obj} {kvs : List (Int × Value)} {tbl : List (Int × List Str)} {k : Int} {x : Str} {t : Tok} {Q : Value → Shared → Prop}
theorem sym_lines (F : Fr h₀ L s.heap m) (N : News h₀ L s.heap ((R,oR) :: rest)) (hz : x.length ≤ 40400) (hR : NeAll R rest) (hn : Named rest kvs tbl) (_hdd : od.IsDictOf (PySem.intKind prog w) kvs) (hm : (d,od) ∈ rest) {nw : List (Addr × Obj)} (hw : ∀ p ∈ nw,p ∈ rest)
    (h : ∀ R' X vs tl h' k,R' = R → StrsAre vs (Txt.lines x) → Fr h₀ L h' m → News h₀ L h' ((X,listOf (List.toArray vs) 0) :: (R',oR) :: tl) → @Ne Nat R' X → (∀ p ∈ tl,@Ne Nat p.1 R') → (∀ p ∈ tl,@Ne Nat p.1 X) → (d,od) ∈ tl → Named tl kvs tbl → (∀ p ∈ nw,p ∈ tl) → Q (.ref X) { s with heap := h',toks := k }) :
    wpAny (model prog w) A (call (.builtin "str.splitlines") [.str x t]) Q E s :=
  splitlinesNA F N (fun l h' k e sa _ _ F' N'=>h R s.heap.objs.size (strValues l) rest h' k rfl (e ▸ sa) F' N' (Nat.ne_of_lt (Heap.lt_size (N _ (.head _)).1)) hR.get (fun p hp=>Nat.ne_of_lt (Heap.lt_size (N p (.tail _ hp)).1)) hm hn hw) (by rw [sizeLine_eq];omega)
theorem get_names (N : News h₀ L s.heap news) (hd : (d,od) ∈ news) (hdd : od.IsDictOf (PySem.intKind prog w) kvs) (lo : (d == sysModules) = false) (H : Named tl kvs tbl)
    (h : ∀ D' X vs c,D' = D → (X,listOf (List.toArray vs) c) ∈ (D',listOf (List.toArray []) 0) :: tl → StrsAre vs (lookT tbl k) → Q (.ref X) { s with toks := s.toks + 1 }) :
    wpAny (model prog w) A (call (.builtin "dict.get") [.ref d,.int k t,.ref D]) Q E s := by
  obtain ⟨X,vs,c,e,hm,hs⟩ := H.get k D
  exact kdg_get2 N hd hdd lo (intKind_is _ _ _ _) _ rfl (by rw [e];exact h D X vs c rfl hm hs)
end
noncomputable def symJ (m₀ : Str → Option Value) (X R : Addr) (oX : Obj) (tl : List (Addr × Obj)) (tbl : List (Int × List Str)) (base : Int) (ls : List Str) (i : Nat) (m : Str → Option Value) (n : List (Addr × Obj)) : Prop :=
  ∃ o1 o2 o3 rs k,m = (fun y=>if y = Str.ofString "name" then o1 else if y = Str.ofString "row" then o2 else if y = Str.ofString "place" then o3 else m₀ y) ∧ n = (X,oX) :: (R,listOf (List.toArray rs) k) :: tl ∧ StrsAre rs (symUpTo tbl base ls i)
theorem symJ.opIK {m₀ : Str → Option Value} {X R : Addr} {oX : Obj} {tl : List (Addr × Obj)} {tbl : List (Int × List Str)} {base : Int} {ls : List Str} {i : Nat} {m : Str → Option Value} {n : List (Addr × Obj)} {P : Prop} {h9 g9 : Heap} {L9 : Addr} {I9 K9 : Addr} {oI9 oK9 : Obj} (H : symJ m₀ X R oX tl tbl base ls i m n) (F9 : Fr h9 L9 g9 m) (N9 : News h9 L9 g9 ((I9,oI9) :: (K9,oK9) :: n)) (off9 : ∀ p ∈ n,p.1 ≠ I9 ∧ p.1 ≠ K9) (kk9 : ∀ o1 o2 o3 rs k,(StrsAre rs (symUpTo tbl base ls i)) → Fr h9 L9 g9 ((fun y=>if y = Str.ofString "name" then o1 else if y = Str.ofString "row" then o2 else if y = Str.ofString "place" then o3 else m₀ y)) → News h9 L9 g9 ((I9,oI9) :: (K9,oK9) :: (X,oX) :: (R,listOf (List.toArray rs) k) :: tl) → (∀ p ∈ ((X,oX) :: (R,listOf (List.toArray rs) k) :: tl),p.1 ≠ I9 ∧ p.1 ≠ K9) → P) : P := by
  obtain ⟨o1,o2,o3,rs,k,em,en,r1⟩ := H
  subst em
  subst en
  exact kk9 o1 o2 o3 rs k r1 F9 N9 off9
theorem symJ.opZ {m₀ : Str → Option Value} {X R : Addr} {oX : Obj} {tl : List (Addr × Obj)} {tbl : List (Int × List Str)} {base : Int} {ls : List Str} {i : Nat} {m : Str → Option Value} {n : List (Addr × Obj)} {P : Prop} {h9 g9 : Heap} {L9 : Addr} (H : symJ m₀ X R oX tl tbl base ls i m n) (F9 : Fr h9 L9 g9 m) (N9 : News h9 L9 g9 (n)) (kk9 : ∀ o1 o2 o3 rs k,(StrsAre rs (symUpTo tbl base ls i)) → Fr h9 L9 g9 ((fun y=>if y = Str.ofString "name" then o1 else if y = Str.ofString "row" then o2 else if y = Str.ofString "place" then o3 else m₀ y)) → News h9 L9 g9 ((X,oX) :: (R,listOf (List.toArray rs) k) :: tl) → P) : P := by
  obtain ⟨o1,o2,o3,rs,k,em,en,r1⟩ := H
  subst em
  subst en
  exact kk9 o1 o2 o3 rs k r1 F9 N9
theorem sym_start {m₀ : Str → Option Value} {X R : Addr} {oX : Obj} {tl : List (Addr × Obj)} {tbl : List (Int × List Str)} {base : Int} {ls : List Str} {k : Nat} : symJ m₀ X R oX tl tbl base ls 0 m₀ ((X,oX) :: (R,listOf (List.toArray []) k) :: tl) :=
  ⟨m₀ (Str.ofString "name"),m₀ (Str.ofString "row"),m₀ (Str.ofString "place"),[],k,funext fun y=>by
    by_cases h : y = Str.ofString "name"
    · rw [if_pos h,h]
    · rw [if_neg h]
      by_cases h : y = Str.ofString "row"
      · rw [if_pos h,h]
      · rw [if_neg h]
        by_cases h : y = Str.ofString "place"
        · rw [if_pos h,h]
        · rw [if_neg h],rfl,.nil⟩
noncomputable def symK (m₁ : Str → Option Value) (D I K X R : Addr) (oI oK oX : Obj) (tl : List (Addr × Obj)) (acc xs : List Str) (j : Nat) (m : Str → Option Value) (n : List (Addr × Obj)) : Prop :=
  ∃ o rs k,m = (fun y=>if y = Str.ofString "name" then o else m₁ y) ∧ n = (D,listOf (List.toArray []) 0) :: (I,oI) :: (K,oK) :: (X,oX) :: (R,listOf (List.toArray rs) k) :: tl ∧ StrsAre rs (acc ++ marks (xs.take j))
theorem symK.opI {m₁ : Str → Option Value} {D I K X R : Addr} {oI oK oX : Obj} {tl : List (Addr × Obj)} {acc xs : List Str} {j : Nat} {m : Str → Option Value} {n : List (Addr × Obj)} {P : Prop} {h9 g9 : Heap} {L9 : Addr} {I9 : Addr} {oI9 : Obj} (H : symK m₁ D I K X R oI oK oX tl acc xs j m n) (F9 : Fr h9 L9 g9 m) (N9 : News h9 L9 g9 ((I9,oI9) :: n)) (off9 : ∀ p ∈ n,p.1 ≠ I9) (kk9 : ∀ o rs k,(StrsAre rs (acc ++ marks (xs.take j))) → Fr h9 L9 g9 ((fun y=>if y = Str.ofString "name" then o else m₁ y)) → News h9 L9 g9 ((I9,oI9) :: (D,listOf (List.toArray []) 0) :: (I,oI) :: (K,oK) :: (X,oX) :: (R,listOf (List.toArray rs) k) :: tl) → (∀ p ∈ ((D,listOf (List.toArray []) 0) :: (I,oI) :: (K,oK) :: (X,oX) :: (R,listOf (List.toArray rs) k) :: tl),p.1 ≠ I9) → P) : P := by
  obtain ⟨o,rs,k,em,en,r1⟩ := H
  subst em
  subst en
  exact kk9 o rs k r1 F9 N9 off9
theorem symK.opZ {m₁ : Str → Option Value} {D I K X R : Addr} {oI oK oX : Obj} {tl : List (Addr × Obj)} {acc xs : List Str} {j : Nat} {m : Str → Option Value} {n : List (Addr × Obj)} {P : Prop} {h9 g9 : Heap} {L9 : Addr} (H : symK m₁ D I K X R oI oK oX tl acc xs j m n) (F9 : Fr h9 L9 g9 m) (N9 : News h9 L9 g9 (n)) (kk9 : ∀ o rs k,(StrsAre rs (acc ++ marks (xs.take j))) → Fr h9 L9 g9 ((fun y=>if y = Str.ofString "name" then o else m₁ y)) → News h9 L9 g9 ((D,listOf (List.toArray []) 0) :: (I,oI) :: (K,oK) :: (X,oX) :: (R,listOf (List.toArray rs) k) :: tl) → P) : P := by
  obtain ⟨o,rs,k,em,en,r1⟩ := H
  subst em
  subst en
  exact kk9 o rs k r1 F9 N9
theorem symK_start {m₁ : Str → Option Value} {D I K X R : Addr} {oI oK oX : Obj} {tl : List (Addr × Obj)} {acc xs : List Str} {rs : List Value} {k : Nat} (h : StrsAre rs acc) : symK m₁ D I K X R oI oK oX tl acc xs 0 m₁ ((D,listOf (List.toArray []) 0) :: (I,oI) :: (K,oK) :: (X,oX) :: (R,listOf (List.toArray rs) k) :: tl) :=
  ⟨m₁ (Str.ofString "name"),rs,k,funext fun y=>by
    by_cases h : y = Str.ofString "name"
    · rw [if_pos h,h]
    · rw [if_neg h],rfl,by simpa [marks] using h⟩
theorem symK_next {m₁ : Str → Option Value} {D I K X R : Addr} {oI oK oX : Obj} {tl : List (Addr × Obj)} {acc xs : List Str} {rs : List Value} {k j : Nat} {o u : Option Value} {t : Tok} (hj : j < xs.length) (h : StrsAre rs (acc ++ marks (xs.take j))) :
    symK m₁ D I K X R oI oK oX tl acc xs (j + 1) (fun y=>if y = Str.ofString "name" then u else if y = Str.ofString "name" then o else m₁ y) ((D,listOf (List.toArray []) 0) :: (I,oI) :: (K,oK) :: (X,oX) :: (R,listOf (List.toArray (rs ++ [.str (xs.getD j (Str.ofString "") ++ Str.ofString ":") t])) (k + 1)) :: tl) :=
  ⟨u,_,_,funext fun y=>by by_cases h : y = Str.ofString "name" <;> simp [h],rfl,by
    have e : marks (xs.take (j + 1)) = marks (xs.take j) ++ [xs.getD j (Str.ofString "") ++ Str.ofString ":"] := by
      rw [List.take_add_one,List.getD_eq_getElem?_getD,List.getElem?_eq_getElem hj];exact List.map_append
    rw [e,← List.append_assoc];exact strs_snocK h⟩
theorem sym_next {m₀ : Str → Option Value} {X R : Addr} {oX : Obj} {tl : List (Addr × Obj)} {tbl : List (Int × List Str)} {base : Int} {ls : List Str} {i : Nat} {rs : List Value} {k : Nat} {t : Tok} {xs : List Str} {o a b c d e : Option Value} (he : xs = lookT tbl (slotF base i)) (h : StrsAre rs (symUpTo tbl base ls i ++ marks (xs.take xs.length))) :
    symJ m₀ X R oX tl tbl base ls (i + 1) (fun y=>if y = Str.ofString "name" then o else if y = Str.ofString "row" then a else if y = Str.ofString "place" then b else if y = Str.ofString "name" then c else if y = Str.ofString "row" then d else if y = Str.ofString "place" then e else m₀ y) ((X,oX) :: (R,listOf (List.toArray (rs ++ [.str (ls.getD i (Str.ofString "")) t])) (k + 1)) :: tl) :=
  ⟨o,a,b,_,_,funext fun y=>by by_cases h1 : y = Str.ofString "name" <;> by_cases h2 : y = Str.ofString "row" <;> by_cases h3 : y = Str.ofString "place" <;> simp [h1,h2,h3],rfl,by
    rw [List.take_length,he] at h;exact strs_snocK h⟩
theorem sym_e2 {tbl : List (Int × List Str)} {base : Int} {ls : List Str} {rs : List Value} {n : Nat} (hn : n = ls.length) (hs : StrsAre rs (symUpTo tbl base ls n)) (h2 : ¬ rs = []) :
    Txt.join (Str.ofString "\n") (symUpTo tbl base ls n) ++ Str.ofString "\n" = symF tbl base ls := by
  subst hn
  unfold symF
  rw [if_neg]
  exact fun q=>h2 ((strs_nil hs).mpr q)
theorem sym_e3 {tbl : List (Int × List Str)} {base : Int} {ls : List Str} {rs : List Value} {n : Nat} (hn : n = ls.length) (hs : StrsAre rs (symUpTo tbl base ls n)) (h2 : rs = []) :
    Str.ofString "" = symF tbl base ls := by
  subst hn
  unfold symF
  rw [if_pos]
  exact (strs_nil hs).mp h2
theorem sym_len {tbl : List (Int × List Str)} {base : Int} {ls : List Str} (hT : TblOk tbl) (hl : ls.length ≤ 10 ∧ ∀ y ∈ ls,y.length ≤ 150) {i j : Nat} (hi : i < ls.length) {rs : List Value} {x : Int} (h : StrsAre rs (symUpTo tbl base ls i ++ marks ((lookT tbl x).take j))) : rs.length ≤ 1000 := by
  rw [sa_len h,List.length_append]
  have := (symUp_ok (base := base) hT hl.2 i).2
  have := (marks_ok (lookT_ok hT x) j).1
  omega
theorem getN_le {tbl : List (Int × List Str)} (hT : TblOk tbl) (x : Int) (j : Nat) : ((lookT tbl x).getD j (Str.ofString "")).length ≤ 3 := by
  rw [List.getD_eq_getElem?_getD]
  cases e : (lookT tbl x)[j]? with
  | none=>exact Nat.zero_le _
  | some y=>exact (lookT_ok hT x).2 y (List.mem_of_getElem? e)
theorem off_updN {P : Addr → Prop} {R : Addr} {o o' : Obj} {tl pre : List (Addr × Obj)} (h : ∀ p ∈ pre ++ (R,o) :: tl,P p.1) : ∀ p ∈ pre ++ (R,o') :: tl,P p.1 := by
  intro p hp
  rcases List.mem_append.mp hp with hp | hp
  · exact h p (List.mem_append_left _ hp)
  · rcases List.mem_cons.mp hp with rfl | hp
    · exact h (R,o) (List.mem_append_right _ (.head _))
    · exact h p (List.mem_append_right _ (.tail _ hp))
end
section
theorem c_ltgt {w : World} {mean : ExcName → Option Value} {mg mb : Str → Option Value} {news : List (Addr × Obj)} (v b : Int) (x y : Str) (ps : List Str) (tv tx tb : Tok) :
    Cb w mean mg mb 492 14 news ((0 ≤ v ∧ v < 2 ^ 32) ∧ x.length ≤ 600 ∧ y.length ≤ 600 ∧ Txt.split x (Str.ofString ", ") = ps ∧ ps.getLast? = some y) [.int v tv,.str x tx,.int b tb] (fun t=>.int (ltgtF v y b) t) := by
  dsimp only [Cb]
  k_fill
  intros
  rename_i hpre _ _ hret
  k_with_none
  have hv := hpre.1
  have hx := hpre.2.1
  have hyl := hpre.2.2.1
  have hs9 := hpre.2.2.2.1
  have hy9 := hpre.2.2.2.2
  clear hpre
  have htl := hx
  k_with "execs cons" => ((with_reducible refine wpAny_execs_cons ?_);(try dsimp only))
  k_with "execs nil" => ((with_reducible refine wpAny_execs_nil ?_);(try dsimp only))
  k_with "call builtin:str.split cons nil" => (k_dflt (refine' split_k ?k1 ?k2 ?k3 hs9 ?k4 ?_;(case k1=>k_asm);(case k2=>k_asm);(case k3=>decide +kernel);(case k4=>(rw [sizeLine_eq];omega)));intro D9 vs9 h9 tk9 sa9 F9 N9 l9;(try k_lt l9))
  k_with "subscriptTail Name UnaryOp ref int" => ((obtain ⟨t9,lst9⟩ := last_strs sa9 hy9);k_dflt (refine' part_last ?k1 ?k2 lst9 ?_;(case k1=>k_asm);(case k2=>k_mem)))
  k_with "eval Call Name cons nil" => ((with_reducible show wpAny _ _ (PySem.eval (PySem.Expr.Call (PySem.Expr.Name (PySem.Str.ofString "_law_is_one") _) _ _ _) _) _ _ _);refine Call_ ?_)
  k_with "call ref cons nil" => ((with_reducible show wpAny _ _ (PySem.call (Value.ref 437) _ _) _ _ _);k_dflt (first | refine' cb_use (c_one _ _) ?k1 ?k2 ?k3 ?k4 ?k5 ?kK ?kp ?kd ?ku ?_);(case k1 | k2 | k3 | k4 | k5=>k_asm);(case kK=>first | exact rfl | assumption);(case kp=>assumption);(case kd=>ktr_room);(case ku=>ktr_units);intro t9 h9 tk9 F9 N9;(try dsimp only);(try k_fold))
  k_with "eval Call Name cons nil" => ((with_reducible show wpAny _ _ (PySem.eval (PySem.Expr.Call (PySem.Expr.Name (PySem.Str.ofString "_law_number") _) _ _ _) _) _ _ _);refine Call_ ?_)
  k_with "call ref cons nil" => ((with_reducible show wpAny _ _ (PySem.call (Value.ref 442) _ _) _ _ _);k_dflt (first | refine' cb_use (c_num _ _) ?k1 ?k2 ?k3 ?k4 ?k5 ?kK ?kp ?kd ?ku ?_);(case k1 | k2 | k3 | k4 | k5=>k_asm);(case kK=>first | exact rfl | assumption);(case kp=>assumption);(case kd=>ktr_room);(case ku=>ktr_units);intro t9 h9 tk9 F9 N9;(try dsimp only);(try k_fold))
  k_with "compareOp NotIn int ref" => (k_dflt (refine' notin_tuple_ints ?kt ?ki ?_;(case kt=>exact News.isTup (by k_asm) (by k_mem));(case ki=>repeat constructor)))
  refine wpAny_call ?_
  k_dflt cell_enter
  (try (rename Fr _ _ _ _=>Fm9;replace Fm9 : Fr _ _ _ (fun y=>List.lookup y [(Str.ofString "at",.int b tb),(Str.ofString "said",.str x tx),(Str.ofString "sum_now",.int v tv)]) := Fm9))
  k_steps
  all_goals (first | (refine' cb_retI hret ?e1 ?e2 ?e3;(case e2=>k_asm);(case e3=>first | k_asm | (refine' cb_drop ?cbN ?cbS;(case cbN=>assumption);(case cbS=>kcj_all)));(case e1=>first | exact ltE1 (by assumption) | exact ltE2 (by assumption) | exact ltE3 (by assumption) (by assumption))))
end
section
open PyProof.Rows.KTD PySem.Builtin PySem.Builtin.Str PySem.StrLaws
theorem name_cps {v : Int} (hn : nameF v ≠ Str.ofString "") : ∀ c ∈ (nameF v).cps.toList,97 ≤ c ∧ c ≤ 122 := (name_base hn).elim fun _ z=>z.2.1.2.1
theorem name_word {v : Int} (hn : nameF v ≠ Str.ofString "") : (nameF v == Str.ofString ".word") = false :=
  beq_eq_false_iff_ne.mpr fun e=>absurd (name_cps hn 46 (by rw [e];decide)).1 (by decide)
theorem word_text (v : Int) : Txt.partition (Str.ofString ".word 0x" ++ hexF v) (Str.ofString " ") = (Str.ofString ".word",Str.ofString " ",Str.ofString "0x" ++ hexF v) := by
  rw [show Str.ofString ".word 0x" ++ hexF v = Str.ofString ".word" ++ Str.ofString " " ++ (Str.ofString "0x" ++ hexF v) from str_ext (by simp only [cps_app];rfl)]
  exact part_at gap_cps (by decide)
theorem c_readv {w : World} {mean : ExcName → Option Value} {mg mb : Str → Option Value} {news : List (Addr × Obj)} (v : Int) (tx : Tok) : Cb w mean mg mb 485 18 news (0 ≤ v ∧ v < 2 ^ 32) [.str (disF v) tx] (fun t=>.int v t) := by
  intro dp un gd cn cs a ccd cl outer A₀ base h₀ L m s Q E B F X N T hk hp hd hu hR
  have hx : (disF v).length ≤ 600 := Nat.le_trans (disF_len v hp) (by decide)
  by_cases hn : nameF v = Str.ofString ""
  · have e : disF v = Str.ofString ".word 0x" ++ hexF v := (dis_e0 hn).symm
    rw [e] at hx ⊢
    have hw := word_text v
    refine c_rdX _ (Str.ofString "0x" ++ hexF v) v tx dp un gd cn cs a ccd cl outer A₀ base h₀ L m s Q E B F X N T hk ⟨hx,by rw [PySem.Str.length_append,hexF_len];decide,by rw [hw],by rw [hw],by rw [hw],hp,slice_to (Str.ofString "0x") _ rfl,slice_from (Str.ofString "0x") _ rfl⟩ hd hu hR
  · have hnw := name_word hn
    have hl : ∀ h0 : opsF v ≠ [],(Txt.join (Str.ofString ", ") (opsF v)).length ≤ 600 := fun _=>Nat.le_trans (dis_join hp) (by decide)
    have two := fun h0=>dis_part (v := v) hn h0 (name_cps hn)
    have el : ∀ {k},(opsF v).length = k + 1 → opsF v ≠ [] := fun h e=>by rw [e] at h;cases h
    have e0 : opsF v = [] → disF v = nameF v := fun h0=>by unfold disF;rw [if_neg hn,if_pos h0]
    cases readG hp hn with
    | J1 hj h0 q=>exact c_rdJ1 (disF v) (nameF v) _ (opsF v) v tx dp un gd cn cs a ccd cl outer A₀ base h₀ L m s Q E B F X N T hk ⟨hx,hl h0,congrArg (·.1) (two h0),congrArg (·.2.1) (two h0),congrArg (·.2.2) (two h0),ops_split hp h0,hnw,hj,q⟩ hd hu hR
    | J2 hj h0 q q2=>exact c_rdJ2 (disF v) (nameF v) _ (opsF v) v tx dp un gd cn cs a ccd cl outer A₀ base h₀ L m s Q E B F X N T hk ⟨hx,hl h0,congrArg (·.1) (two h0),congrArg (·.2.1) (two h0),congrArg (·.2.2) (two h0),ops_split hp h0,hnw,hj,q,q2⟩ hd hu hR
    | M1 hj hl2 h5 hb q=>exact c_rdM1 (disF v) (nameF v) _ (opsF v) v tx dp un gd cn cs a ccd cl outer A₀ base h₀ L m s Q E B F X N T hk ⟨hx,hl (el hl2),congrArg (·.1) (two (el hl2)),congrArg (·.2.1) (two (el hl2)),congrArg (·.2.2) (two (el hl2)),ops_split hp (el hl2),hnw,hj,by rw [hl2];rfl,h5,hb,q⟩ hd hu hR
    | M2 hj hl2 h5 hb q q2=>exact c_rdM2 (disF v) (nameF v) _ (opsF v) v tx dp un gd cn cs a ccd cl outer A₀ base h₀ L m s Q E B F X N T hk ⟨hx,hl (el hl2),congrArg (·.1) (two (el hl2)),congrArg (·.2.1) (two (el hl2)),congrArg (·.2.2) (two (el hl2)),ops_split hp (el hl2),hnw,hj,by rw [hl2];rfl,h5,hb,q,q2⟩ hd hu hR
    | W hj hl3 h5 hb=>exact c_rdW (disF v) (nameF v) _ (opsF v) v tx dp un gd cn cs a ccd cl outer A₀ base h₀ L m s Q E B F X N T hk ⟨hx,hl (el hl3),congrArg (·.1) (two (el hl3)),congrArg (·.2.1) (two (el hl3)),congrArg (·.2.2) (two (el hl3)),ops_split hp (el hl3),hnw,hj,by rw [hl3];rfl,h5,hb⟩ hd hu hR
    | E1 h0 q e=>subst e;rw [e0 h0,q];exact c_rd_ecall tx dp un gd cn cs a ccd cl outer A₀ base h₀ L m s Q E B F X N T hk trivial hd hu hR
    | E2 h0 q e=>subst e;rw [e0 h0,q];exact c_rd_ebreak tx dp un gd cn cs a ccd cl outer A₀ base h₀ L m s Q E B F X N T hk trivial hd hu hR
theorem key_hi (p l h : Int) (hp : 0 ≤ p ∧ p < 128) (hl : 0 ≤ l ∧ l < 8) : (p + l * 4096 + h * 33554432) / 4096 % 8 = l ∧ (p + l * 4096 + h * 33554432) / 2 ^ 25 = h := by
  have e := f3A (p := p) (x := l) (y := h) ⟨hp.1,by omega⟩
  rw [Int.emod_eq_of_lt hl.1 hl.2] at e
  refine ⟨e,?_⟩
  rw [show (2 : Int) ^ 25 = 33554432 from rfl,Int.add_mul_ediv_right _ h (by decide),Int.ediv_eq_zero_of_lt (by omega) (by omega),Int.zero_add]
theorem one_key {p l h : Int} (hp : 0 ≤ p ∧ p < 128) (hl : 0 ≤ l ∧ l < 8) {k : Int} (e : k = p + l * 4096 + h * 33554432) (hk : nbb k ≠ Str.ofString "") :
    (p = 51 → one51F l h = true) ∧ (p = 19 → one19F l h = true) ∧ (p ≠ 55 ∧ p ≠ 23 ∧ p ≠ 111 ∧ p ≠ 115 ∧ p ≠ 15 ∧ p ≠ 51 → p ≠ 19 → oneT p l = true) := by
  have g := (nbb_chk hk).2
  have k1 : k % 128 = p := by omega
  have k2 := key_hi p l h hp hl
  rw [← e] at k2
  revert g
  refine both (P := fun b _=>b = true → _) (fun q _=>?_) (fun q _=>?_) (fun q _=>?_) (fun q g=>?_) (fun q g=>?_) (fun q q2 g=>?_)
  all_goals rw [k1] at q
  · exact ⟨fun e=>by omega,fun e=>by omega,fun a _=>absurd q fun q=>q.elim a.1 fun q=>q.elim a.2.1 a.2.2.1⟩
  · exact ⟨fun e=>by omega,fun e=>by omega,fun a _=>absurd q a.2.2.2.1⟩
  · exact ⟨fun e=>by omega,fun e=>by omega,fun a _=>absurd q a.2.2.2.2.1⟩
  · exact ⟨fun _=>by rw [← k2.1,← k2.2];exact g,fun e=>by omega,fun a _=>absurd q a.2.2.2.2.2⟩
  · exact ⟨fun e=>by omega,fun _=>by rw [← k2.1,← k2.2];exact g,fun _ a=>absurd q a⟩
  · rw [k1] at q2 g
    exact ⟨fun e=>absurd e q.2.2.2.2.2,fun e=>absurd e q2,fun _ _=>by rw [← k2.1];exact g⟩
theorem one_keys : (∀ f3 : _root_.Fin 8,(∀ op ∈ [(103 : Int),99,3,35],oneT op ((f3 : Nat) : Int) = true → nbb (op + ((f3 : Nat) : Int) * 4096) ≠ Str.ofString "") ∧
    (∀ f7 ∈ [(0 : Int),1,32],(one51F ((f3 : Nat) : Int) f7 = true → nbb (51 + ((f3 : Nat) : Int) * 4096 + f7 * 33554432) ≠ Str.ofString "") ∧ (one19F ((f3 : Nat) : Int) f7 = true → (if ((f3 : Nat) : Int) = 1 ∨ ((f3 : Nat) : Int) = 5 then nbb (19 + ((f3 : Nat) : Int) * 4096 + f7 * 33554432) else nbb (19 + ((f3 : Nat) : Int) * 4096)) ≠ Str.ofString ""))) ∧
    nbb 115 ≠ Str.ofString "" ∧ nbb 1048691 ≠ Str.ofString "" ∧ ∀ p ∈ [(55 : Int),23,111],nbb p ≠ Str.ofString "" := by decide +kernel
theorem one_of_name {v : Int} : nameF v ≠ Str.ofString "" → oneF v = true := by
  have hp : 0 ≤ v % 128 ∧ v % 128 < 128 := ⟨Int.emod_nonneg _ (by decide),Int.emod_lt_of_pos _ (by decide)⟩
  have hl : 0 ≤ v / 2 ^ 12 % 8 ∧ v / 2 ^ 12 % 8 < 8 := ⟨Int.emod_nonneg _ (by decide),Int.emod_lt_of_pos _ (by decide)⟩
  have lo : ∀ x : Int,v % 128 + x * 2 ^ 12 = v % 128 + x * 4096 + 0 * 33554432 := fun x=>by rw [Int.zero_mul,Int.add_zero];rfl
  refine both (P := fun b n=>n ≠ Str.ofString "" → b = true) (fun _ _=>rfl) (fun q h=>?_) (fun _ h=>decide_eq_true (Decidable.byContradiction fun q=>by rw [if_neg q] at h;exact h rfl)) (fun q h=>(one_key hp hl rfl h).1 q) (fun q h=>?_) (fun q q2 h=>(one_key hp hl (lo _) h).2.2 q q2)
  · have g := (nbb_chk h).2
    revert g
    exact both (P := fun b _=>b = true → _) (fun e=>by omega) (fun _ g=>g) (fun e=>by omega) (fun e=>by omega) (fun e=>by omega) (fun e=>absurd q e.2.2.2.1)
  · by_cases a : v / 2 ^ 12 % 8 = 1 ∨ v / 2 ^ 12 % 8 = 5
    · rw [if_pos a] at h;exact (one_key hp hl rfl h).2.1 q
    · unfold one19F;rw [if_neg a]
theorem name_of_one {v : Int} : oneF v = true → nameF v ≠ Str.ofString "" := by
  obtain ⟨ks,k7,k8,k9⟩ := one_keys
  obtain ⟨f,hf⟩ : ∃ f : _root_.Fin 8,v / 2 ^ 12 % 8 = ((f : Nat) : Int) := ⟨⟨(v / 2 ^ 12 % 8).toNat,(Int.toNat_lt (Int.emod_nonneg _ (by decide))).mpr (Int.emod_lt_of_pos _ (by decide))⟩,(Int.toNat_of_nonneg (Int.emod_nonneg _ (by decide))).symm⟩
  obtain ⟨k1,k2⟩ := ks f
  refine both (P := fun b n=>b = true → n ≠ Str.ofString "") (fun q _=>k9 _ (by simpa using q)) (fun q h=>?_) (fun q h=>?_) (fun q h=>?_) (fun q h=>?_) (fun _ _ h=>?_)
  · rcases of_decide_eq_true h with e | e <;> rw [e] <;> assumption
  · rw [if_pos (of_decide_eq_true h)];decide
  · rw [hf] at h ⊢
    rw [q]
    refine (k2 _ ?_).1 h
    rcases of_decide_eq_true h with e | e | e
    · rw [e];decide
    · rw [e];decide
    · rw [e.1];decide
  · rw [hf] at h ⊢
    rw [q]
    by_cases a : ((f : Nat) : Int) = 1 ∨ ((f : Nat) : Int) = 5
    · refine (k2 _ ?_).2 h
      unfold one19F at h
      rw [if_pos a] at h
      rcases of_decide_eq_true h with e | e
      · rw [e];decide
      · rw [e.2];decide
    · have z := (k2 0 (by decide)).2 (by unfold one19F;rw [if_neg a])
      rw [if_neg a] at z ⊢
      exact z
  · rw [hf] at h ⊢
    have ho : v % 128 = 103 ∨ v % 128 = 99 ∨ v % 128 = 3 ∨ v % 128 = 35 := Decidable.byContradiction fun q=>by
      unfold oneT at h
      rw [if_neg (fun e=>q (.inl e)),if_neg (fun e=>q (.inr (.inl e))),if_neg (fun e=>q (.inr (.inr (.inl e)))),if_neg (fun e=>q (.inr (.inr (.inr e))))] at h
      cases h
    exact k1 _ (by simpa using ho) h
theorem starts_eq (v : Int) (h : 0 ≤ v ∧ v < 2 ^ 32) : (decide (0 + (Str.ofString ".word").length ≤ (disF v).length) && PySem.Builtin.Str.subAt (disF v) (Str.ofString ".word") 0) = !oneF v := by
  by_cases hn : nameF v = Str.ofString ""
  · have ho : oneF v = false := by
      cases e : oneF v with
      | false=>rfl
      | true=>exact absurd hn (name_of_one e)
    rw [ho,← dis_e0 hn,subAt_eq,cps_app]
    have : decide (0 + (Str.ofString ".word").length ≤ (Str.ofString ".word 0x" ++ hexF v).length) = true := by rw [decide_eq_true_eq,PySem.Str.length_append,hexF_len];decide
    rw [this];rfl
  · rw [one_of_name hn]
    have hc := name_cps hn
    have h2 : PySem.Builtin.Str.subAt (disF v) (Str.ofString ".word") 0 = false := by
      cases e : PySem.Builtin.Str.subAt (disF v) (Str.ofString ".word") 0 with
      | false=>rfl
      | true =>
        have hl := subAt_zero_le e
        have g := at_head (c := 46) (r := [119,111,114,100]) rfl (⟨by omega,e⟩ : At (disF v) (Str.ofString ".word") (disF v).length 0)
        obtain ⟨c,r,hcr⟩ : ∃ c r,(nameF v).cps.toList = c :: r := List.exists_cons_of_ne_nil fun q=>hn (str_ext q)
        have hd : (disF v).cps.toList[0]? = some c := by
          unfold disF
          rw [if_neg hn]
          split
          · rw [hcr];rfl
          · rw [cps_app,cps_app,hcr];rfl
        rw [hd] at g
        have := hc c (by rw [hcr];exact .head _)
        have : c = 46 := Option.some.inj g
        omega
    rw [h2,Bool.and_false];rfl
theorem part_le {y : Str} : ∀ {ps : List Str} {p : Str},p ∈ ps → p.length ≤ (Str.join y ps).length
  | [q],p,h=>by rw [List.mem_singleton.mp h];exact Nat.le_refl _
  | q :: q2 :: r,p,h=>by
    rw [join_cons2,PySem.Str.length_append,PySem.Str.length_append]
    rcases List.mem_cons.mp h with rfl | h
    · omega
    · have := part_le (y := y) h;omega
theorem split_ne (x y : Str) : Txt.split x y ≠ [] := by
  unfold Txt.split
  split
  · simp
  · split
    · simp
    · rw [partsBetween_eq]
      obtain ⟨p,r,e⟩ := partsFrom_ne x y.length 0 (occurrences x y 0 x.length (x.length + 1))
      rw [e];simp
noncomputable def lastF (v : Int) : Str := ((Txt.split (disF v) (Str.ofString ", ")).getLast?).getD Str.empty
theorem last_ok (v : Int) (h : 0 ≤ v ∧ v < 2 ^ 32) : (lastF v).length ≤ 600 ∧ (Txt.split (disF v) (Str.ofString ", ")).getLast? = some (lastF v) := by
  unfold lastF
  rw [List.getLast?_eq_some_getLast (split_ne _ _)]
  refine ⟨?_,rfl⟩
  refine Nat.le_trans (part_le (y := Str.ofString ", ") (List.getLast_mem (split_ne _ _))) ?_
  rw [join_split]
  exact Nat.le_trans (disF_len v h) (by decide)
theorem last_two {v : Int} {p q : Str} {r : List Str} (h : 0 ≤ v ∧ v < 2 ^ 32) (hn : nameF v ≠ Str.ofString "") (e : opsF v = p :: q :: r) : lastF v = ((q :: r).getLast?).getD Str.empty := by
  have hd : disF v = Str.join (Str.ofString ", ") ((nameF v ++ Str.ofString " " ++ p) :: q :: r) := by
    unfold disF
    rw [if_neg hn,e,if_neg (by simp),join_str,join_cons2,join_cons2]
    simp only [PySem.Str.append_assoc]
  have ho := ops_cps v h
  rw [e] at ho
  unfold lastF
  rw [hd,split_join sep_cps (by decide) (by decide +kernel) (by simp)]
  · rw [List.getLast?_cons_cons]
  · intro x hx
    rcases List.mem_cons.mp hx with rfl | hx
    · rw [cps_app,cps_app,List.mem_append,List.mem_append]
      rintro ((g | g) | g)
      · have := name_cps hn 44 g;omega
      · revert g;decide
      · exact ho p (.head _) g
    · exact ho x (.tail _ hx)
theorem ltgt_eq (v b : Int) (h : 0 ≤ v ∧ v < 2 ^ 32) : ltgtF v (lastF v) b = tgtF v b := by
  by_cases hn : nameF v = Str.ofString ""
  · unfold ltgtF tgtF
    rw [if_pos hn,if_neg]
    intro q
    exact name_of_one q.1 hn
  have key : ∀ x : Int,(b + x).fmod (2 ^ Int.toNat 32) = (b + x) % 4294967296 := fun x=>by rw [Int.fmod_eq_emod_of_nonneg _ (by decide)];rfl
  have no : ∀ {f : Str},formF (nameF v) = f → f ≠ Str.ofString "B" ∧ f ≠ Str.ofString "J" → v % 128 ≠ 99 ∧ v % 128 ≠ 111 → ltgtF v (lastF v) b = tgtF v b := fun e e2 h=>by
    subst e
    unfold ltgtF tgtF
    rw [if_neg (fun q=>q.2.elim h.1 h.2),if_neg hn,if_neg e2.1,if_neg e2.2]
  have op : ∀ {i c k : Int},BaseR v i → i = c + k * 4096 → c % 128 = c → c ≠ 99 ∧ c ≠ 111 → v % 128 ≠ 99 ∧ v % 128 ≠ 111 := fun hb e e2 e3=>by
    rw [base_op hb,op_of e e2];exact e3
  have at' : ∀ {i c : Int},BaseR v i → i = c → c % 128 ≠ 99 ∧ c % 128 ≠ 111 → v % 128 ≠ 99 ∧ v % 128 ≠ 111 := fun hb e e3=>by
    rw [base_op hb,e];exact e3
  refine name_el hn (fun hb hf _ hc=>?_) (fun hb hf _ _ hc=>?_) (fun hb hf _ _ _ _ _ hc=>?_) (fun hb hf _ _ _ _ _ hc=>?_) (fun hb hf _ _ _ _ _ _ _ hc=>?_) (fun hb hf _ _ _ _ _ hc=>?_) (fun hb hf _ _ hc=>?_) (fun hb hf _ _ _ _ hc=>?_) (fun hb hf _ _ hR _=>?_) (fun hb hf _ _ hc=>?_) (fun hb hf hc=>?_)
  · exact no hf (by decide) (hc.elim (fun hc=>at' hb hc.2 (by decide)) fun hc=>at' hb hc.2 (by decide))
  · unfold ltgtF tgtF
    rw [if_neg hn,if_pos ⟨one_of_name hn,.inr (by rw [base_op hb,hc];rfl)⟩,hf,if_neg (by decide),if_pos rfl,last_two h hn (ops_J hf),key]
    show (b + numF (tx (immJ v))) % _ = _
    rw [num_int]
  · unfold ltgtF tgtF
    rw [if_neg hn,if_pos ⟨one_of_name hn,.inl (by rw [base_op hb,op_of hc rfl])⟩,hf,if_pos rfl,last_two h hn (ops_B hf),key]
    show (b + numF (tx (immB v))) % _ = _
    rw [num_int]
  · exact no hf (by decide) (at' hb hc (by decide))
  · exact no hf (by decide) (op hb hc rfl (by decide))
  · exact no hf (by decide) (op hb hc rfl (by decide))
  · exact no hf (by decide) (hc.elim (fun hc=>at' hb hc.2 (by decide)) fun hc=>hc.elim (fun hc=>at' hb hc.2 (by decide)) fun hc=>at' hb hc.2 (by decide))
  · exact no hf (by decide) (op hb hc rfl (by decide))
  · exact no hf (by decide) (by rw [base_op hb,hR];decide)
  · exact no hf (by decide) (at' hb hc (by decide))
  · exact no hf (by decide) (hc.elim (fun hc=>at' hb hc.2 (by decide)) fun hc=>at' hb hc.2 (by decide))
end
section
theorem c_lt {w : World} {mean : ExcName → Option Value} {mg mb : Str → Option Value} {news : List (Addr × Obj)} (v b : Int) (tv tx tb : Tok) : Cb w mean mg mb 492 14 news (0 ≤ v ∧ v < 2 ^ 32) [.int v tv,.str (disF v) tx,.int b tb] (fun t=>.int (tgtF v b) t) := by
  intro dp un gd cn cs a ccd cl outer A₀ base h₀ L m s Q E B F X N T hk hp hd hu hR
  refine c_ltgt v b (disF v) (lastF v) _ tv tx tb dp un gd cn cs a ccd cl outer A₀ base h₀ L m s Q E B F X N T hk ⟨hp,Nat.le_trans (disF_len v hp) (by decide),(last_ok v hp).1,rfl,(last_ok v hp).2⟩ hd hu ?_
  intro t h' tk' F' N'
  rw [ltgt_eq v b hp]
  exact hR t h' tk' F' N'
end
section
noncomputable def octF (ws ls : List Int) : List Int := (ws.map (KTBy.little 4)).flatten ++ ls
noncomputable def lsrcF (ws ls : List Int) : List Str := Str.ofString "    .text" :: (ws.map fun v=>Str.ofString "    " ++ disF v) ++ (if ls = [] then [] else [Str.ofString "    .byte " ++ figT ls])
noncomputable def dueUpTo (rows : List Str) : Nat → List Str
  | 0=>[]
  | k + 1=>dueUpTo rows k ++ (if (k : Int) = 0 then [Str.ofString "a:",Str.ofString "b:"] else []) ++ (if (k : Int) = (rows.length : Int) - 1 then [Str.ofString "end:"] else []) ++ [rows.getD k (Str.ofString "")]
noncomputable abbrev textF (l : List Str) : Str := Txt.join (Str.ofString "\n") l ++ Str.ofString "\n"
structure Drawn (ws ls : List Int) (base : Int) : Prop where
  some : 1 ≤ ws.length
  few : ws.length ≤ 4
  words : ∀ v ∈ ws,0 ≤ v ∧ v < 2 ^ 32
  left : ls.length ≤ 3
  octets : ∀ v ∈ ls,0 ≤ v ∧ v < 256
  b0 : 0 ≤ base
  b1 : base < 2 ^ 32
  b4 : base % 4 = 0
end
section
open PySem.Builtin PySem.Builtin.Str PySem.StrLaws
theorem oct_len0 : ∀ ws : List Int,(ws.map (KTBy.little 4)).flatten.length = 4 * ws.length
  | []=>rfl
  | w :: ws=>by rw [List.map_cons,List.flatten_cons,List.length_append,oct_len0 ws,KTBy.little_length,List.length_cons];omega
theorem little_val {w : Int} (h : 0 ≤ w ∧ w < 2 ^ 32) : KFB.value (KTBy.little 4 w).reverse = w := by
  show (((0 * 256 + w / 256 / 256 / 256 % 256) * 256 + w / 256 / 256 % 256) * 256 + w / 256 % 256) * 256 + w % 256 = w
  omega
theorem oct_at : ∀ (ws ls : List Int) (i : Nat),i < ws.length → (((ws.map (KTBy.little 4)).flatten ++ ls).drop (4 * i)).take 4 = KTBy.little 4 (ws.getD i 0) := by
  intro ws
  induction ws with
  | nil=>exact fun _ _ h=>by cases h
  | cons w ws ih =>
   intro ls i h
   cases i with
   | zero =>
    rw [List.map_cons,List.flatten_cons,List.append_assoc,Nat.mul_zero,List.drop_zero]
    show List.take 4 _ = KTBy.little 4 w
    exact List.take_left' (KTBy.little_length 4 w)
   | succ i =>
    rw [List.map_cons,List.flatten_cons,List.append_assoc,show 4 * (i + 1) = 4 + 4 * i by omega,← List.drop_drop,List.drop_left' (KTBy.little_length 4 w)]
    exact ih ls i (by simpa using h)
theorem oct_words {ws ls : List Int} {base : Int} (d : Drawn ws ls base) : wordsF (octF ws ls) = ws ∧ leftL (octF ws ls) = ls := by
  have hl : (octF ws ls).length = 4 * ws.length + ls.length := by unfold octF;rw [List.length_append,oct_len0]
  have h4 : (octF ws ls).length / 4 = ws.length := by rw [hl];have := d.left;omega
  constructor
  · unfold wordsF
    rw [h4]
    apply List.ext_getElem
    · simp
    · intro i h1 h2
      rw [List.getElem_map,List.getElem_range]
      unfold octF
      rw [oct_at ws ls i h2,List.getD_eq_getElem?_getD,List.getElem?_eq_getElem h2]
      exact little_val (d.words _ (List.getElem_mem h2))
  · unfold leftL
    rw [h4]
    unfold octF
    rw [show ws.length * 4 = (ws.map (KTBy.little 4)).flatten.length by rw [oct_len0];omega,List.drop_left]
theorem left_eq {ws ls : List Int} {base : Int} (d : Drawn ws ls base) : leftF (octF ws ls) = if ls = [] then Str.ofString "" else Str.ofString ".byte " ++ figT ls := by
  unfold leftF
  rw [(oct_words d).2]
theorem byte_ne (x : Str) : Str.ofString ".byte " ++ x ≠ Str.ofString "" := fun e=>by
  have := congrArg Str.length e
  rw [PySem.Str.length_append] at this
  have h6 : (Str.ofString ".byte ").length = 6 := rfl
  have h0 : (Str.ofString "").length = 0 := rfl
  omega
theorem left_if {ws ls : List Int} {base : Int} (d : Drawn ws ls base) (f : Str → Str) : (if leftF (octF ws ls) = Str.ofString "" then [] else [f (leftF (octF ws ls))]) = if ls = [] then [] else [f (Str.ofString ".byte " ++ figT ls)] := by
  rw [left_eq d]
  by_cases h : ls = []
  · rw [if_pos h,if_pos h,if_pos rfl]
  · rw [if_neg h,if_neg h,if_neg (byte_ne _)]
theorem lst_due {ws ls : List Int} {base : Int} (d : Drawn ws ls base) : lstF (octF ws ls) base = textF (lrowsF ws ls base) := by
  have e : lstRows (octF ws ls) base = lrowsF ws ls base := by
    unfold lstRows lrowsF
    rw [left_if d (fun x=>hexF (atF base (wordsF (octF ws ls)).length) ++ Str.ofString ": " ++ x),(oct_words d).1]
    refine congrArg _ ?_
    by_cases h : ls = []
    · rw [if_pos h,if_pos h]
    · rw [if_neg h,if_neg h,show Str.ofString ": .byte " = Str.ofString ": " ++ Str.ofString ".byte " from rfl,PySem.Str.append_assoc,PySem.Str.append_assoc,PySem.Str.append_assoc]
  unfold lstF
  rw [e,if_neg]
  intro q
  have hl := congrArg List.length q
  unfold lrowsF rowsF at hl
  rw [List.length_append,List.length_map,List.length_range] at hl
  have := d.some
  simp only [List.length_nil] at hl
  omega
theorem src_due {ws ls : List Int} {base : Int} (d : Drawn ws ls base) : srcF (octF ws ls) = textF (lsrcF ws ls) := by
  have e : srcRows (octF ws ls) = lsrcF ws ls := by
    unfold srcRows lsrcF
    rw [left_if d (fun x=>Str.ofString "    " ++ x),(oct_words d).1]
    refine congrArg _ ?_
    by_cases h : ls = []
    · rw [if_pos h,if_pos h]
    · rw [if_neg h,if_neg h,show Str.ofString "    .byte " = Str.ofString "    " ++ Str.ofString ".byte " from rfl,PySem.Str.append_assoc]
  unfold srcF
  rw [e]
noncomputable def okT (x : Str) : Prop := ∀ c ∈ x.cps.toList,32 ≤ c ∧ c < 127
theorem ok_app {x y : Str} (h1 : okT x) (h2 : okT y) : okT (x ++ y) := fun c hc=>by
  rw [cps_app] at hc
  rcases List.mem_append.mp hc with h | h
  · exact h1 c h
  · exact h2 c h
theorem ok_join {y : Str} (hy : okT y) : ∀ {ps : List Str},(∀ p ∈ ps,okT p) → okT (Str.join y ps)
  | [],_=>fun c hc=>by cases hc
  | [p],h=>h p (.head _)
  | p :: q :: r,h=>by
    rw [join_cons2]
    exact ok_app (ok_app (h p (.head _)) hy) (ok_join hy fun z hz=>h z (.tail _ hz))
theorem ok_txt {x : Str} (h : (x.cps.toList.all fun c=>decide (32 ≤ c ∧ c < 127)) = true) : okT x := fun c hc=>by
  have := List.all_eq_true.mp h c hc
  exact of_decide_eq_true this
theorem oka : okT (Str.ofString "(") := ok_txt (x := Str.ofString "(") (by rfl)
theorem okb : okT (Str.ofString ")") := ok_txt (x := Str.ofString ")") (by rfl)
theorem okc : okT (Str.ofString ".word 0x") := ok_txt (x := Str.ofString ".word 0x") (by rfl)
theorem okd : okT (Str.ofString " ") := ok_txt (x := Str.ofString " ") (by rfl)
theorem oke : okT (Str.ofString ", ") := ok_txt (x := Str.ofString ", ") (by rfl)
theorem okf : okT (Str.ofString ": ") := ok_txt (x := Str.ofString ": ") (by rfl)
theorem okg : okT (Str.ofString "  ") := ok_txt (x := Str.ofString "  ") (by rfl)
theorem okh : okT (Str.ofString " -> ") := ok_txt (x := Str.ofString " -> ") (by rfl)
theorem oki : okT (Str.ofString ": .byte ") := ok_txt (x := Str.ofString ": .byte ") (by rfl)
theorem ok_hexC : ∀ d : _root_.Fin 16,32 ≤ hexC ((d : Nat) : Int) ∧ hexC ((d : Nat) : Int) < 127 := by decide +kernel
theorem ok_hex (v : Int) : okT (hexF v) := by
  have g : ∀ x : Int,32 ≤ hexC (x % 16) ∧ hexC (x % 16) < 127 := fun x=>by
    have h0 := Int.emod_nonneg x (b := 16) (by decide)
    have h1 := Int.emod_lt_of_pos x (b := 16) (by decide)
    have e := ok_hexC ⟨(x % 16).toNat,by omega⟩
    rw [show (((⟨(x % 16).toNat,by omega⟩ : _root_.Fin 16) : Nat) : Int) = x % 16 from Int.toNat_of_nonneg h0] at e
    exact e
  intro c hc
  rw [hexF_eq] at hc
  simp only [List.mem_cons,List.not_mem_nil,or_false] at hc
  rcases hc with rfl | rfl | rfl | rfl | rfl | rfl | rfl | rfl <;> exact g _
theorem ok_int (n : Int) : okT (Str.ofString (toString n)) := fun c hc=>by
  rcases int_cps n c hc with h | h
  · rw [h];decide
  · omega
theorem ok_regs : (regsL.all fun x=>x.cps.toList.all fun c=>decide (32 ≤ c ∧ c < 127)) = true := by decide +kernel
theorem ok_reg (i : Int) : okT (regF i) := by
  unfold regF
  rw [List.getD_eq_getElem?_getD]
  cases e : regsL[i.toNat]? with
  | none=>exact fun c hc=>by cases hc
  | some x=>exact ok_txt (List.all_eq_true.mp ok_regs x (List.mem_of_getElem? e))
theorem ok_fset {x : Int} (h : 0 ≤ x ∧ x < 16) : okT (fsetF x) := by
  have key : ∀ b : _root_.Fin 16,((fsetF ((b : Nat) : Int)).cps.toList.all fun c=>decide (32 ≤ c ∧ c < 127)) = true := by decide +kernel
  have e := key ⟨x.toNat,by omega⟩
  rw [show (((⟨x.toNat,by omega⟩ : _root_.Fin 16) : Nat) : Int) = x from Int.toNat_of_nonneg h.1] at e
  exact ok_txt e
theorem ok_ops (v : Int) : ∀ p ∈ opsF v,okT p :=
  ops_all v ok_reg ok_int (fun n i=>ok_app (ok_app (ok_app (ok_int n) oka) (ok_reg i)) okb) fun _ h=>ok_fset h
theorem ok_dis (v : Int) : okT (disF v) := by
  unfold disF
  split
  · exact ok_app okc (ok_hex v)
  · rename_i hn
    have h1 : okT (nameF v) := fun c hc=>by have := name_cps hn c hc;omega
    split
    · exact h1
    · rw [join_str]
      exact ok_app (ok_app h1 okd) (ok_join oke (ok_ops v))
theorem ok_row (v a t : Int) : okT (rowF v a t) := by
  unfold rowF
  have h := ok_app (ok_app (ok_app (ok_app (ok_hex a) okf) (ok_hex v)) okg) (ok_dis v)
  split
  · exact h
  · exact ok_app (ok_app h okh) (ok_hex t)
theorem ok_fig (ks : List Int) : okT (figT ks) := by
  unfold figT
  rw [join_str]
  refine ok_join oke fun p hp=>?_
  obtain ⟨i,_,rfl⟩ := List.mem_map.mp hp
  exact ok_int _
theorem ok_rows (ws ls : List Int) (base : Int) : ∀ p ∈ lrowsF ws ls base,okT p := by
  intro p hp
  unfold lrowsF at hp
  rcases List.mem_append.mp hp with hp | hp
  · obtain ⟨i,_,rfl⟩ := List.mem_map.mp hp
    exact ok_row _ _ _
  · split at hp
    · cases hp
    · rw [List.mem_singleton.mp hp]
      exact ok_app (ok_app (ok_hex _) oki) (ok_fig _)
theorem no_break : ((List.range 127).all fun c=>decide (c < 32) || !Unicode.isLineBreak c) = true := by decide +kernel
theorem ok_break {x : Str} (h : okT x) : ∀ c ∈ x.cps.toList,Unicode.isLineBreak c = false := fun c hc=>by
  obtain ⟨h1,h2⟩ := h c hc
  have := List.all_eq_true.mp no_break c (List.mem_range.mpr h2)
  rw [Bool.or_eq_true,decide_eq_true_eq] at this
  rcases this with q | q
  · omega
  · simpa using q
theorem row_lenB {v a t : Int} (h : 0 ≤ v ∧ v < 2 ^ 32) : (rowF v a t).length ≤ 150 := by
  have h1 := disF_len v h
  have e1 : (Str.ofString ": ").length = 2 := rfl
  have e2 : (Str.ofString "  ").length = 2 := rfl
  have e3 : (Str.ofString " -> ").length = 4 := rfl
  unfold rowF
  split <;> simp only [PySem.Str.length_append,hexF_len] <;> omega
theorem lrows_len {ws ls : List Int} {base : Int} (d : Drawn ws ls base) : 1 ≤ (lrowsF ws ls base).length ∧ (lrowsF ws ls base).length ≤ 5 := by
  unfold lrowsF rowsF
  rw [List.length_append,List.length_map,List.length_range]
  have h1 := d.some
  have h2 := d.few
  split <;> simp only [List.length_nil,List.length_singleton] <;> omega
theorem join_b {y : Str} {b : Nat} : ∀ {ps : List Str},(∀ p ∈ ps,p.length ≤ b) → (Str.join y ps).length ≤ ps.length * (b + y.length)
  | [],_=>Nat.zero_le _
  | [p],h=>by
    have := h p (.head _)
    show p.length ≤ 1 * (b + y.length)
    omega
  | p :: q :: r,h=>by
    have h1 := h p (.head _)
    have h2 := join_b (y := y) (b := b) (ps := q :: r) fun z hz=>h z (.tail _ hz)
    rw [join_cons2,PySem.Str.length_append,PySem.Str.length_append,List.length_cons,Nat.succ_mul]
    omega
theorem lines_due {ws ls : List Int} {base : Int} (d : Drawn ws ls base) : Txt.lines (textF (lrowsF ws ls base)) = lrowsF ws ls base ∧ (textF (lrowsF ws ls base)).length ≤ 40400 ∧ (lrowsF ws ls base).length ≤ 10 ∧ 1 ≤ (lrowsF ws ls base).length ∧ ∀ y ∈ lrowsF ws ls base,y.length ≤ 150 := by
  have hl := lrows_len d
  have h0 : lrowsF ws ls base ≠ [] := fun e=>by rw [e] at hl;exact absurd hl.1 (by decide)
  have hb : ∀ y ∈ lrowsF ws ls base,y.length ≤ 150 := by
    intro y hy
    unfold lrowsF at hy
    rcases List.mem_append.mp hy with hy | hy
    · obtain ⟨i,hi,rfl⟩ := List.mem_map.mp hy
      have hi := List.mem_range.mp hi
      refine row_lenB (d.words _ ?_)
      rw [List.getD_eq_getElem?_getD,List.getElem?_eq_getElem hi]
      exact List.getElem_mem hi
    · split at hy
      · cases hy
      · rw [List.mem_singleton.mp hy,PySem.Str.length_append,PySem.Str.length_append,hexF_len]
        have := fig_len (getD_in d.octets) d.left
        have e3 : (Str.ofString ": .byte ").length = 8 := rfl
        omega
  unfold textF
  rw [join_str]
  refine ⟨lines_rows h0 fun p hp=>ok_break (ok_rows ws ls base p hp),?_,by omega,hl.1,hb⟩
  have := join_b (y := Str.ofString "\n") hb
  rw [PySem.Str.length_append]
  have e1 : (Str.ofString "\n").length = 1 := rfl
  rw [e1] at this ⊢
  have h5 := hl.2
  generalize (lrowsF ws ls base).length = n at this h5
  omega
theorem slot_eq (base : Int) (i : Nat) : slotF base i = (base + 4 * (i : Int)) % 4294967296 := by
  unfold slotF
  rw [mask32]
theorem sym_up {tbl : List (Int × List Str)} {base : Int} {rows : List Str} : ∀ n,(∀ i,i < n → marks (lookT tbl (slotF base i)) = (if (i : Int) = 0 then [Str.ofString "a:",Str.ofString "b:"] else []) ++ (if (i : Int) = (rows.length : Int) - 1 then [Str.ofString "end:"] else [])) → symUpTo tbl base rows n = dueUpTo rows n
  | 0,_=>rfl
  | n + 1,h=>by
    unfold symUpTo dueUpTo
    rw [sym_up n fun i hi=>h i (Nat.lt_succ_of_lt hi),h n (Nat.lt_succ_self _)]
    simp only [List.append_assoc]
theorem sym_all {tbl : List (Int × List Str)} {base : Int} {rows : List Str} (h1 : 1 ≤ rows.length) (h : ∀ i,i < rows.length → marks (lookT tbl (slotF base i)) = (if (i : Int) = 0 then [Str.ofString "a:",Str.ofString "b:"] else []) ++ (if (i : Int) = (rows.length : Int) - 1 then [Str.ofString "end:"] else [])) :
    symF tbl base rows = textF (dueUpTo rows rows.length) := by
  unfold symF
  rw [sym_up rows.length h,if_neg]
  intro q
  obtain ⟨n,hn⟩ : ∃ n,rows.length = n + 1 := ⟨rows.length - 1,by omega⟩
  rw [hn] at q
  have := congrArg List.length q
  unfold dueUpTo at this
  simp at this
theorem sym_due2 {ws ls : List Int} {base : Int} (d : Drawn ws ls base) (h : (lrowsF ws ls base).length ≠ 1) :
    symF [(base,[Str.ofString "a",Str.ofString "b"]),((base + 4 * (((lrowsF ws ls base).length : Int) - 1)) % 4294967296,[Str.ofString "end"]),(base + 2,[Str.ofString "no"])] base (lrowsF ws ls base) = textF (dueUpTo (lrowsF ws ls base) (lrowsF ws ls base).length) := by
  have hl := lrows_len d
  have b0 := d.b0
  have b1 := d.b1
  have b4 := d.b4
  clear d
  generalize lrowsF ws ls base = rows at *
  refine sym_all hl.1 fun i hi=>?_
  rw [slot_eq]
  simp only [lookT]
  generalize rows.length = n at *
  by_cases i0 : i = 0
  · subst i0
    rw [if_pos (by clear h hl hi;omega),if_pos (by rfl),if_neg (by omega)]
    rfl
  rw [if_neg (by clear h;omega)]
  by_cases ie : i + 1 = n
  · rw [if_pos (by rw [← ie];congr 2;omega),if_neg (by omega),if_pos (by omega)]
    rfl
  · rw [if_neg (by clear h;omega),if_neg (by clear h hl hi;omega),if_neg (by omega),if_neg (by omega)]
    rfl
theorem sym_due1 {ws ls : List Int} {base : Int} (d : Drawn ws ls base) (h : (lrowsF ws ls base).length = 1) :
    symF [(base,[Str.ofString "a",Str.ofString "b",Str.ofString "end"]),(base + 2,[Str.ofString "no"])] base (lrowsF ws ls base) = textF (dueUpTo (lrowsF ws ls base) (lrowsF ws ls base).length) := by
  have b0 := d.b0
  have b1 := d.b1
  clear d
  refine sym_all (by omega) fun i hi=>?_
  have i0 : i = 0 := by omega
  subst i0
  rw [slot_eq,h]
  simp only [lookT]
  rw [if_pos (by omega)]
  rfl
end
section
section
open PySem.Calls
theorem updF_addr {d : Addr} {o : Obj} {news : List (Addr × Obj)} {g : Obj → List (Addr × Obj)} (U : UpdF d o news g) (o' : Obj) : ∀ p ∈ g o',∃ q ∈ news,q.1 = p.1 := by
  induction U with
  | head _ =>
    intro p hp
    rcases List.mem_cons.mp hp with rfl | hp
    · exact ⟨_,.head _,rfl⟩
    · exact ⟨p,.tail _ hp,rfl⟩
  | tail _ _ ih =>
    intro p hp
    rcases List.mem_cons.mp hp with rfl | hp
    · exact ⟨_,.head _,rfl⟩
    · obtain ⟨q,h1,h2⟩ := ih p hp
      exact ⟨q,.tail _ h1,h2⟩
theorem updF_mem {d : Addr} {o : Obj} {news : List (Addr × Obj)} {g : Obj → List (Addr × Obj)} (U : UpdF d o news g) : (d,o) ∈ news := by
  induction U with
  | head _=>exact .head _
  | tail _ _ ih=>exact .tail _ ih
noncomputable abbrev setE (p1 p2 p3 p4 p5 p6 p7 p8 p9 p10 : Pos) : Expr :=
  (.Call (.Attribute (.Call (.Attribute (.Name (Str.ofString "named") p1) (Str.ofString "setdefault") p2) [.Subscript (.Name (Str.ofString "symbols") p3) (.Name (Str.ofString "name") p4) p5,.List [] p6] [] p7) (Str.ofString "append") p8) [.Name (Str.ofString "name") p9] [] p10)
noncomputable abbrev setS (p1 p2 p3 p4 p5 p6 p7 p8 p9 p10 p11 : Pos) : Stmt := .Expr (setE p1 p2 p3 p4 p5 p6 p7 p8 p9 p10) p11
variable {w : World} {A : Around} {E : Value → Shared → Prop} {s : Shared} {h₀ : Heap} {L a S d : Addr} {m : Str → Option Value} {cn : Str} {cs : Scope} {ccd : Value} {cl : List (Str × Addr)} {news : List (Addr × Obj)} {oS o : Obj} {n : Str} {tn : Tok} {p : Int} {tp : Tok} {sk : List (Str × Value)} {kvs : List (Int × Value)} {p1 p2 p3 p4 p5 p6 p7 p8 p9 p10 p11 : Pos} {Q : Flow → Shared → Prop}
theorem setapp (F : Fr h₀ L s.heap m) (N : News h₀ L s.heap news) (hk : cs.kind = .function) (hq : (cs.names.lookup (Str.ofString "named") == some .local && (cs.names.lookup (Str.ofString "symbols") == some .local && cs.names.lookup (Str.ofString "name") == some .local)) = true)
    (hc1 : Mc (.Name (Str.ofString "named") p1) (Str.ofString "setdefault") p2 [.Subscript (.Name (Str.ofString "symbols") p3) (.Name (Str.ofString "name") p4) p5,.List [] p6] p7) (hc2 : Mc (.Call (.Attribute (.Name (Str.ofString "named") p1) (Str.ofString "setdefault") p2) [.Subscript (.Name (Str.ofString "symbols") p3) (.Name (Str.ofString "name") p4) p5,.List [] p6] [] p7) (Str.ofString "append") p8 [.Name (Str.ofString "name") p9] p10)
    (hi : interactive (envX cn cs L a ccd cl) = false) (hsw : swapsWith (setE p1 p2 p3 p4 p5 p6 p7 p8 p9 p10) none p11.line (envX cn cs L a ccd cl) = pure false)
    (hnm : m (Str.ofString "name") = some (.str n tn)) (hsy : m (Str.ofString "symbols") = some (.ref S)) (hnd : m (Str.ofString "named") = some (.ref d)) (hmS : (S,oS) ∈ news) (hdS : oS.IsDictOf (PySem.strKind PySem.Challenge.rw_nm0011_01.row.prog w) sk) (hv : valueAt sk n = some (.int p tp))
    (hm : (d,o) ∈ news) (hd : o.IsDictOf (PySem.intKind PySem.Challenge.rw_nm0011_01.row.prog w) kvs)
    (hset : ∀ X h1 tk,Fr h₀ L h1 m → News h₀ L h1 ((X,listOf (List.toArray []) 0) :: news) → (∀ q ∈ news,q.1 < X) → wpAny (model PySem.Challenge.rw_nm0011_01.row.prog w) A (call (.builtin "dict.setdefault") [.ref d,.int p tp,.ref X])
      (fun r s'=>∃ R vs c news2 news3,r = .ref R ∧ Fr h₀ L s'.heap m ∧ News h₀ L s'.heap news2 ∧ (R,listOf (List.toArray vs) c) ∈ news2 ∧ vs.length ≤ 1000 ∧ Upd R (listOf (List.toArray vs) c) (listOf (List.toArray (vs ++ [.str n tn])) (c + 1)) news2 news3 ∧ (∀ h',Fr h₀ L h' m → News h₀ L h' news3 → Q .next { s' with heap := h' })) E { s with heap := h1,toks := tk }) :
    wpAny (model PySem.Challenge.rw_nm0011_01.row.prog w) A (exec (setS p1 p2 p3 p4 p5 p6 p7 p8 p9 p10 p11) (envX cn cs L a ccd cl)) Q E s := by
  simp only [Bool.and_eq_true,beq_iff_eq] at hq
  refine wpAny_Expr_any ?_ hi hsw
  obtain ⟨pl1,hc1⟩ := hc1
  obtain ⟨pl2,hc2⟩ := hc2
  refine MethodCall_ (MethodCall_ (nameX_L F hnd (kob_method PySem.F.slot_dict_setdefault PySem.F.type_dict_setdefault N hm hd ?_) hk hq.1 rfl) (hc1 _)) (hc2 _)
  refine callWith_method1 (args_cons (Subscript_ (nameX_L F hsy (nameX_L F hnm (kda_item (knd := PySem.strKind _ _) N hmS hdS (strKind_is _ _ _ _) hv ?_) hk hq.2.2 rfl) hk hq.2.1 rfl)))
  refine args_cons (List_ (args_nil (newList_K (s := { s with toks := s.toks + 1 }) F N (fun X h1 F1 N1 lt=>args_nil ?_))))
  refine wpAny_mono (hset X h1 _ F1 N1 lt) (fun r s' hr=>?_) fun _ _ e=>e
  obtain ⟨R,vs,c,news2,news3,rfl,F2,N2,hR,hz,U,hQ⟩ := hr
  refine listMethod_K N2 hR PySem.F.slot_list_append PySem.F.type_list_append (callWith_method1 (args_cons (nameX_L F2 hnm (args_nil ?_) hk hq.2.2 rfl)))
  exact append_mine F2 N2 hz U fun h' F' N'=>hQ h' F' N'
theorem setapp_new {g : Obj → List (Addr × Obj)} (F : Fr h₀ L s.heap m) (N : News h₀ L s.heap news) (hk : cs.kind = .function) (hq : (cs.names.lookup (Str.ofString "named") == some .local && (cs.names.lookup (Str.ofString "symbols") == some .local && cs.names.lookup (Str.ofString "name") == some .local)) = true)
    (hc1 : Mc (.Name (Str.ofString "named") p1) (Str.ofString "setdefault") p2 [.Subscript (.Name (Str.ofString "symbols") p3) (.Name (Str.ofString "name") p4) p5,.List [] p6] p7) (hc2 : Mc (.Call (.Attribute (.Name (Str.ofString "named") p1) (Str.ofString "setdefault") p2) [.Subscript (.Name (Str.ofString "symbols") p3) (.Name (Str.ofString "name") p4) p5,.List [] p6] [] p7) (Str.ofString "append") p8 [.Name (Str.ofString "name") p9] p10)
    (hi : interactive (envX cn cs L a ccd cl) = false) (hsw : swapsWith (setE p1 p2 p3 p4 p5 p6 p7 p8 p9 p10) none p11.line (envX cn cs L a ccd cl) = pure false)
    (hnm : m (Str.ofString "name") = some (.str n tn)) (hsy : m (Str.ofString "symbols") = some (.ref S)) (hnd : m (Str.ofString "named") = some (.ref d)) (hmS : (S,oS) ∈ news) (hdS : oS.IsDictOf (PySem.strKind PySem.Challenge.rw_nm0011_01.row.prog w) sk) (hv : valueAt sk n = some (.int p tp))
    (U : UpdF d o news g) (hd : o.IsDictOf (PySem.intKind PySem.Challenge.rw_nm0011_01.row.prog w) kvs) (lo : (d == sysModules) = false) (hl : valueAt kvs p = none) (hz : kvs.length ≤ 10)
    (hQ : ∀ X o' h' tk',Fr h₀ L h' m → News h₀ L h' ((X,listOf (List.toArray [.str n tn]) 1) :: g o') → (∀ q ∈ news,q.1 < X) → o'.IsDictOf (PySem.intKind PySem.Challenge.rw_nm0011_01.row.prog w) (kvs ++ [(p,.ref X)]) → Q .next { s with heap := h',toks := tk' }) :
    wpAny (model PySem.Challenge.rw_nm0011_01.row.prog w) A (exec (setS p1 p2 p3 p4 p5 p6 p7 p8 p9 p10 p11) (envX cn cs L a ccd cl)) Q E s :=
  setapp F N hk hq hc1 hc2 hi hsw hnm hsy hnd hmS hdS hv (updF_mem U) hd fun X h1 tk F1 N1 lt =>
    setdef_new (s := { s with heap := h1,toks := tk }) F1 N1 (.tail (Ne.symm (Nat.ne_of_lt (lt _ (updF_mem U)))) U) hd lo hl hz fun h2 o2 F2 N2 hd2=>⟨X,[],0,_,_,rfl,F2,N2,.head _,Nat.zero_le _,.head fun q hq=>by
      obtain ⟨q',h1,h2⟩ := updF_addr U o2 q hq
      exact h2 ▸ Nat.ne_of_lt (lt _ h1),fun h3 F3 N3=>hQ X o2 h3 _ F3 N3 lt hd2⟩
theorem setapp_hit {X : Addr} {vs : List Value} {c : Nat} {news' : List (Addr × Obj)} (F : Fr h₀ L s.heap m) (N : News h₀ L s.heap news) (hk : cs.kind = .function) (hq : (cs.names.lookup (Str.ofString "named") == some .local && (cs.names.lookup (Str.ofString "symbols") == some .local && cs.names.lookup (Str.ofString "name") == some .local)) = true)
    (hc1 : Mc (.Name (Str.ofString "named") p1) (Str.ofString "setdefault") p2 [.Subscript (.Name (Str.ofString "symbols") p3) (.Name (Str.ofString "name") p4) p5,.List [] p6] p7) (hc2 : Mc (.Call (.Attribute (.Name (Str.ofString "named") p1) (Str.ofString "setdefault") p2) [.Subscript (.Name (Str.ofString "symbols") p3) (.Name (Str.ofString "name") p4) p5,.List [] p6] [] p7) (Str.ofString "append") p8 [.Name (Str.ofString "name") p9] p10)
    (hi : interactive (envX cn cs L a ccd cl) = false) (hsw : swapsWith (setE p1 p2 p3 p4 p5 p6 p7 p8 p9 p10) none p11.line (envX cn cs L a ccd cl) = pure false)
    (hnm : m (Str.ofString "name") = some (.str n tn)) (hsy : m (Str.ofString "symbols") = some (.ref S)) (hnd : m (Str.ofString "named") = some (.ref d)) (hmS : (S,oS) ∈ news) (hdS : oS.IsDictOf (PySem.strKind PySem.Challenge.rw_nm0011_01.row.prog w) sk) (hv : valueAt sk n = some (.int p tp))
    (hm : (d,o) ∈ news) (hd : o.IsDictOf (PySem.intKind PySem.Challenge.rw_nm0011_01.row.prog w) ((p,.ref X) :: kvs)) (lo : (d == sysModules) = false) (hz : ((p,Value.ref X) :: kvs).length ≤ 10) (hX : (X,listOf (List.toArray vs) c) ∈ news) (hc : vs.length ≤ 1000)
    (U : Upd X (listOf (List.toArray vs) c) (listOf (List.toArray (vs ++ [.str n tn])) (c + 1)) news news')
    (hQ : ∀ h' tk',Fr h₀ L h' m → News h₀ L h' news' → Q .next { s with heap := h',toks := tk' }) :
    wpAny (model PySem.Challenge.rw_nm0011_01.row.prog w) A (exec (setS p1 p2 p3 p4 p5 p6 p7 p8 p9 p10 p11) (envX cn cs L a ccd cl)) Q E s :=
  setapp F N hk hq hc1 hc2 hi hsw hnm hsy hnd hmS hdS hv hm hd fun Y h1 tk F1 N1 lt =>
    setdef_hit (s := { s with heap := h1,toks := tk }) N1 (.tail _ hm) hd lo hz ⟨X,vs,c,_,_,rfl,F1,N1,.tail _ hX,hc,.tail (Ne.symm (Nat.ne_of_lt (lt _ hX))) U,fun h3 F3 N3=>hQ h3 _ F3 fun q hq=>N3 q (.tail _ hq)⟩
end
noncomputable def symT (base last b2 : Int) : List (Int × List Str) := if last = base then [(base,[Str.ofString "a",Str.ofString "b",Str.ofString "end"]),(b2,[Str.ofString "no"])] else [(base,[Str.ofString "a",Str.ofString "b"]),(last,[Str.ofString "end"]),(b2,[Str.ofString "no"])]
theorem symT_eq {base b2 : Int} : symT base base b2 = [(base,[Str.ofString "a",Str.ofString "b",Str.ofString "end"]),(b2,[Str.ofString "no"])] := if_pos rfl
theorem symT_ne {base last b2 : Int} (h : last ≠ base) : symT base last b2 = [(base,[Str.ofString "a",Str.ofString "b"]),(last,[Str.ofString "end"]),(b2,[Str.ofString "no"])] := if_neg h
theorem symT_ok {base last b2 : Int} : TblOk (symT base last b2) := by
  unfold symT
  split <;> (intro p9 hp9;simp only [List.mem_cons,List.not_mem_nil,or_false] at hp9)
  · rcases hp9 with rfl | rfl <;> (dsimp only;decide)
  · rcases hp9 with rfl | rfl | rfl <;> (dsimp only;decide)
noncomputable def SymP (w : World) (h₀ : Heap) (L : Addr) (s : Shared) (m₀ : Str → Option Value) (news : List (Addr × Obj)) (tbl : List (Int × List Str)) (s' : Shared) : Prop :=
  ∃ h' tk nw d od m' kvs,s' = { s with heap := h',toks := tk } ∧ Fr h₀ L h' m' ∧ (∀ y,¬ y = Str.ofString "name" → m' y = if y = Str.ofString "named" then some (.ref d) else m₀ y) ∧ News h₀ L h' nw ∧ (d,od) ∈ nw ∧ od.IsDictOf (PySem.intKind PySem.Challenge.rw_nm0011_01.row.prog w) kvs ∧ (d == sysModules) = false ∧ Named nw kvs tbl ∧ ∀ p ∈ news,p ∈ nw
theorem with_tail {w : World} {A : Around} {S1 S2 : Stmt} {T : List Stmt} {env : Env} {Q : Flow → Shared → Prop} {E : Value → Shared → Prop} {s : Shared} {h₀ : Heap} {m₀ : Str → Option Value} {news : List (Addr × Obj)} (tbl : List (Int × List Str)) (_F : Fr h₀ env.locals s.heap m₀) (_N : News h₀ env.locals s.heap news)
    (ht : ∀ h' tk nw d od on kvs,Fr h₀ env.locals h' (fun y=>if y = Str.ofString "name" then on else if y = Str.ofString "named" then some (.ref d) else m₀ y) → News h₀ env.locals h' nw → (d,od) ∈ nw → od.IsDictOf (PySem.intKind PySem.Challenge.rw_nm0011_01.row.prog w) kvs → (d == sysModules) = false → Named nw kvs tbl → (∀ p ∈ news,p ∈ nw) → wpAny (model PySem.Challenge.rw_nm0011_01.row.prog w) A (execs T env) Q E { s with heap := h',toks := tk })
    (hh : (∀ s',SymP w h₀ env.locals s m₀ news tbl s' → wpAny (model PySem.Challenge.rw_nm0011_01.row.prog w) A (execs T env) Q E s') → wpAny (model PySem.Challenge.rw_nm0011_01.row.prog w) A (execs (S1 :: S2 :: T) env) Q E s) : wpAny (model PySem.Challenge.rw_nm0011_01.row.prog w) A (execs (S1 :: S2 :: T) env) Q E s :=
  hh fun s' H=>by
    obtain ⟨h',tk,nw,d,od,m',kvs,e,F,hm,N,h1,h2,h3,h4,h5⟩ := H
    subst e
    have e : m' = fun y=>if y = Str.ofString "name" then m' (Str.ofString "name") else if y = Str.ofString "named" then some (.ref d) else m₀ y := funext fun y=>by
      by_cases h : y = Str.ofString "name"
      · rw [if_pos h,h]
      · rw [if_neg h,hm y h]
    exact ht h' tk nw d od _ kvs (e ▸ F) N h1 h2 h3 h4 h5
end
section
open PyProof.Rows.LCg PySem.Calls
theorem c_sym {w : World} {mean : ExcName → Option Value} {mg mb : Str → Option Value} {news : List (Addr × Obj)} (B : Array UInt8) (tb : Tok) (ks : List Int) (base last b2 : Int) (tbb ta1 ta2 ta3 ta4 : Tok) (S : Addr) (oS : Obj) :
    Cb w mean mg mb 410 22 news (KBw.bInts B = ks ∧ ks.length ≤ 100 ∧ (∀ v ∈ wordsF ks,0 ≤ v ∧ v < 2 ^ 32) ∧ (0 ≤ base ∧ base < 2 ^ 32) ∧ LinesOk (lstF ks base) ∧ ((S,oS) ∈ news) ∧ oS.IsDictOf (PySem.strKind Challenge.rw_nm0011_01.row.prog w) [(Str.ofString "end",.int last ta1),(Str.ofString "b",.int base ta2),(Str.ofString "a",.int base ta3),(Str.ofString "no",.int b2 ta4)] ∧ (S == sysModules) = false ∧ base ≠ b2 ∧ last ≠ b2) [.bytes B tb,.int base tbb,.ref S] (fun t=>.str (symF (symT base last b2) base (Txt.lines (lstF ks base))) t) := by
  dsimp only [Cb]
  k_fill
  intros
  rename_i hpre _ _ hret
  k_with_none
  have hB := hpre.1
  have hk := hpre.2.1
  have hW := hpre.2.2.1
  have hb := hpre.2.2.2.1
  have hlk := hpre.2.2.2.2.1
  have hmS := hpre.2.2.2.2.2.1
  have hdS := hpre.2.2.2.2.2.2.1
  have hlo := hpre.2.2.2.2.2.2.2.1
  have hn1 := hpre.2.2.2.2.2.2.2.2.1
  have hn3 := hpre.2.2.2.2.2.2.2.2.2
  clear hpre
  have p3 : (Str.ofString "\n").length = 1 := rfl
  have p4 : (Str.ofString ":").length = 1 := rfl
  have hT : TblOk (symT base last b2) := symT_ok
  k_with "call builtin:sorted cons nil" => (k_dflt (refine' kdu_sortedD (knd := PySem.strKind _ _) (enc := PyData.str) (fun _ _=>kdl_flat_str) rfl ?kF ?kN ?kT ?kn ?_;(case kF=>k_asm);(case kN=>k_asm);(case kT=>exact sym_tab (by assumption) (by first | exact hmS | exact .tail _ hmS) hdS hlo);(case kn=>exact Nat.le_of_ble_eq_true rfl));intro D' h' tk';kdl_open)
  k_with "for" => ((rename Fr _ _ _ _=>lF');first | ((with_reducible show wpAny _ _ (PySem.exec (PySem.Stmt.For _ (PySem.Expr.Call (PySem.Expr.Name _ _) _ _ _) _ _ _) _) _ _ _);(with_unfolding_all refine' For_turns lF' ?_;k_whole)) | (k_dflt (refine' for_made lF' ?_)))
  k_with "pyIter ref" => (k_dflt (first | refine' iter_listTurns (vs := [_,_,_,_]) rfl ?kF ?kN ?kM ?kc ?kd ?_ | refine' iter_listTurns (vs := [_]) rfl ?kF ?kN ?kM ?kc ?kd ?_ | refine' iter_listTurns (vs := [_,_]) rfl ?kF ?kN ?kM ?kc ?kd ?_);(case kF=>k_asm);(case kN=>k_asm);(case kM=>k_mem);(case kc=>rfl);(case kd=>rfl));intro i9 l9;(try k_lt l9)
  k_with "UnrEndW" => (k_dflt (first | (refine' unr_mid (pre := []) ?k1 ?k2 ?k3 ?k4 ?_;(case k1=>k_asm);(case k2=>k_asm);(case k3=>first | exact trivial | (dsimp only [NeAll];first | exact trivial | (refine And.intro (by k_ne) ?_;repeat (first | exact trivial | refine And.intro (by k_ne) ?_))));(case k4=>(repeat (first | exact trivial | exact NeAll.lt (by with_reducible assumption) | exact NeAll.lt l9 | exact NeAll.lt l9.2 | exact NeAll.lt l9.2.2 | exact NeAll.lt l9.2.2.2 | exact NeAll.lt l9.2.2.2.2 | exact NeAll.lt l9.2.2.2.2.2 | exact NeAll.lt l9.2.2.2.2.2.2| exact NeAll.lt l9.2.2.2.2.2.2.2 | refine And.intro (by k_ne) ?_)));(refine And.intro ?k5 ?_);(case k5=>k_subL)) | (refine' unr_mid (pre := [_]) ?k1 ?k2 ?k3 ?k4 ?_;(case k1=>k_asm);(case k2=>k_asm);(case k3=>first | exact trivial | (dsimp only [NeAll];first | exact trivial | (refine And.intro (by k_ne) ?_;repeat (first | exact trivial | refine And.intro (by k_ne) ?_))));(case k4=>(repeat (first | exact trivial | exact NeAll.lt (by with_reducible assumption) | exact NeAll.lt l9 | exact NeAll.lt l9.2 | exact NeAll.lt l9.2.2 | exact NeAll.lt l9.2.2.2 | exact NeAll.lt l9.2.2.2.2 | exact NeAll.lt l9.2.2.2.2.2 | exact NeAll.lt l9.2.2.2.2.2.2| exact NeAll.lt l9.2.2.2.2.2.2.2 | refine And.intro (by k_ne) ?_)));(refine And.intro ?k5 ?_);(case k5=>k_subL)) | (refine' unr_mid (pre := [_,_]) ?k1 ?k2 ?k3 ?k4 ?_;(case k1=>k_asm);(case k2=>k_asm);(case k3=>first | exact trivial | (dsimp only [NeAll];first | exact trivial | (refine And.intro (by k_ne) ?_;repeat (first | exact trivial | refine And.intro (by k_ne) ?_))));(case k4=>(repeat (first | exact trivial | exact NeAll.lt (by with_reducible assumption) | exact NeAll.lt l9 | exact NeAll.lt l9.2 | exact NeAll.lt l9.2.2 | exact NeAll.lt l9.2.2.2 | exact NeAll.lt l9.2.2.2.2 | exact NeAll.lt l9.2.2.2.2.2 | exact NeAll.lt l9.2.2.2.2.2.2| exact NeAll.lt l9.2.2.2.2.2.2.2 | refine And.intro (by k_ne) ?_)));(refine And.intro ?k5 ?_);(case k5=>k_subL)) | (refine' unr_mid (pre := [_,_,_]) ?k1 ?k2 ?k3 ?k4 ?_;(case k1=>k_asm);(case k2=>k_asm);(case k3=>first | exact trivial | (dsimp only [NeAll];first | exact trivial | (refine And.intro (by k_ne) ?_;repeat (first | exact trivial | refine And.intro (by k_ne) ?_))));(case k4=>(repeat (first | exact trivial | exact NeAll.lt (by with_reducible assumption) | exact NeAll.lt l9 | exact NeAll.lt l9.2 | exact NeAll.lt l9.2.2 | exact NeAll.lt l9.2.2.2 | exact NeAll.lt l9.2.2.2.2 | exact NeAll.lt l9.2.2.2.2.2 | exact NeAll.lt l9.2.2.2.2.2.2| exact NeAll.lt l9.2.2.2.2.2.2.2 | refine And.intro (by k_ne) ?_)));(refine And.intro ?k5 ?_);(case k5=>k_subL)) | (refine' unr_mid (pre := [_,_,_,_]) ?k1 ?k2 ?k3 ?k4 ?_;(case k1=>k_asm);(case k2=>k_asm);(case k3=>first | exact trivial | (dsimp only [NeAll];first | exact trivial | (refine And.intro (by k_ne) ?_;repeat (first | exact trivial | refine And.intro (by k_ne) ?_))));(case k4=>(repeat (first | exact trivial | exact NeAll.lt (by with_reducible assumption) | exact NeAll.lt l9 | exact NeAll.lt l9.2 | exact NeAll.lt l9.2.2 | exact NeAll.lt l9.2.2.2 | exact NeAll.lt l9.2.2.2.2 | exact NeAll.lt l9.2.2.2.2.2 | exact NeAll.lt l9.2.2.2.2.2.2| exact NeAll.lt l9.2.2.2.2.2.2.2 | refine And.intro (by k_ne) ?_)));(refine And.intro ?k5 ?_);(case k5=>k_subL))))
  k_with "eval Call Name cons nil" => ((with_reducible show wpAny _ _ (PySem.eval (PySem.Expr.Call (PySem.Expr.Name (PySem.Str.ofString "listing") _) _ _ _) _) _ _ _);refine Call_ ?_)
  k_with "call ref cons nil" => ((with_reducible show wpAny _ _ (PySem.call (Value.ref 403) _ _) _ _ _);k_dflt (first | refine' cb_use (c_lst _ _ ks base _) ?k1 ?k2 ?k3 ?k4 ?k5 ?kK ?kp ?kd ?ku ?_);(case k1 | k2 | k3 | k4 | k5=>k_asm);(case kK=>first | exact rfl | assumption);(case kp=>exact ⟨hB,hk,hW,hb⟩);(case kd=>ktr_room);(case ku=>ktr_units);intro t9 h9 tk9 F9 N9;(try dsimp only);(try k_fold))
  k_with "call builtin:str.splitlines cons nil" => (k_dflt (refine' sym_lines (tbl := (symT base last b2)) ?kF ?kN ?kz ?kR ?kn ?kD ?km (nw := news) ?kw ?_;(case kF=>k_asm);(case kN=>k_asm);(case kz=>exact hlk.1);(case kn=>exact hn9);(case kD=>assumption);(case km=>k_mem);(case kw=>exact hnw9);(case kR=>exact NeAll.lt (allLt_of (by assumption))));intro R9 X9 vs9 tl9 h9 k9 e9 sa9 F9 N9 nRX9 ntR9 ntX9 hd9 hn9 hnw9;subst e9)
  k_with "call type:enumerate cons nil" => (k_dflt (refine' enum_made (EnumLst.mk' vs9 0 _ _ (symJ _ X9 R9 _ tl9 (symT base last b2) base (Txt.lines (lstF ks base))) rfl ?k1 ?k2 ?k3 ?k4 ?kst ?kfn);(case k1=>k_asm);(case k2=>k_asm);(case k3=>exact sym_start);(case k4=>(rintro i9 m9 n9 ⟨o19,o29,o39,rs9,k9,e1,e2,e3⟩;subst e2;exact .head _));(case' kst=>(intro i9 v9 t9 T9 m9 n9 h9 tk9 I9 oI9 K9 oK9 hv9 hJ9 hT9 F9 N9 off9;refine symJ.opIK hJ9 F9 N9 off9 ?_;clear F9 N9 off9 hJ9;intro o19 o29 o39 rs9 k9 hs9 F9 N9 off9;obtain ⟨u9,e9,li9⟩ := str_at sa9 i9 v9 hv9;subst e9;have nI9 : @Ne Nat I9 R9 := Ne.symm (off9 (R9,_) (.tail _ (.head _))).1;have nK9 : @Ne Nat K9 R9 := Ne.symm (off9 (R9,_) (.tail _ (.head _))).2;(try dsimp only)));(case' kfn=>(intro h9 tk9 m9 n9 F9 N9 hJ9;refine symJ.opZ hJ9 F9 N9 ?_;clear F9 N9 hJ9;intro o19 o29 o39 rs9 k9 hs9 F9 N9;(try dsimp only)))))
  k_with "getMethod ref" => ((with_reducible show wpAny _ _ (getMethod (Value.ref _) (Str.ofString "get") _) _ _ _);k_dflt (refine' kdg_method (knd := PySem.intKind _ _) ?kN ?kM ?kD ?_;(case kN=>k_asm);(case kM=>exact .tail _ (.tail _ (.tail _ (.tail _ hd9))));(case kD=>assumption)))
  k_with "call builtin:dict.get cons nil" => (k_dflt (refine' get_names (tbl := (symT base last b2)) ?kN ?kM ?kD ?kl ?kH ?_;(case kN=>k_asm);(case kM=>exact .tail _ (.tail _ (.tail _ (.tail _ (.tail _ hd9)))));(case kD=>assumption);(case kl=>assumption);(case kH=>exact hn9));intro D9 Y9 vn9 cn9 e9 hY9 sn9;subst e9)
  k_with "ForLst" => (k_dflt (refine' ForLst.mk' _ vn9 cn9 _ _ (symK _ D9 I9 K9 X9 R9 oI9 oK9 _ tl9 (symUpTo (symT base last b2) base (Txt.lines (lstF ks base)) i9) (lookT (symT base last b2) (slotF base i9))) rfl rfl ?k1 ?k2 ?k3 ?k4 ?kst2 ?kfn2;(case k1=>k_asm);(case k2=>k_asm);(case k3=>exact symK_start hs9);(case k4=>(rintro j9 m9 n9 ⟨oo9,rn9,kn9,e1,e2,e3⟩;subst e2;rcases List.mem_cons.mp hY9 with q9 | q9;rw [q9];exact .head _;exact .tail _ (.tail _ (.tail _ (.tail _ (.tail _ q9))))));(case' kst2=>(intro j9 w9 m9 n9 h9 tk9 J9 oJ9 hw9 hK9 F9 N9 offJ9;refine symK.opI hK9 F9 N9 offJ9 ?_;clear F9 N9 offJ9 hK9;intro oo9 rn9 kn9 hsn9 F9 N9 offJ9;obtain ⟨u99,e9,lj9⟩ := str_at sn9 j9 w9 hw9;subst e9;have nJ9 : @Ne Nat J9 R9 := Ne.symm (offJ9 (R9,_) (.tail _ (.tail _ (.tail _ (.tail _ (.head _))))));have ly9 := getN_le hT (Builtin.bitAnd (base + 4 * (i9 : Int)) 4294967295) j9;(try dsimp only)));(case' kfn2=>(intro h9 tk9 m9 n9 F9 N9 hK9;refine symK.opZ hK9 F9 N9 ?_;clear F9 N9 hK9;intro oo9 rn9 kn9 hsn9 F9 N9;(try dsimp only)))))
  k_with "StepE" => (k_dflt (refine' StepE.mk' _ _ _ _ rfl ?k1 ?k2 ?k3 ?kj;(case k1=>k_asm);(case k2=>k_asm);(case kj=>exact symK_next lj9 hsn9);(case k3=>exact off_updN (P := fun a=>a ≠ J9) (pre := [_,_,_,_]) offJ9)))
  k_with "StepE2" => (k_dflt (refine' StepE2.mk' _ _ _ _ rfl ?k1 ?k2 ?k3 ?kj;(case k1=>k_asm);(case kj=>exact sym_next (t := u9) (k := kn9) (xs := lookT (symT base last b2) (slotF base i9)) rfl (by have q9 := hsn9;rw [sa_len sn9] at q9;exact q9));(case k2=>(refine' cb_drop ?cbN ?cbS;(case cbN=>with_reducible assumption);(case cbS=>intro p9 hp9;exact .tail _ hp9)));(case k3=>exact off_updN (P := fun a=>a ≠ I9 ∧ a ≠ K9) (pre := [_]) off9)))
  k_with "call builtin:list.append cons nil" => (k_dflt (first | (refine' append_mine ?k1 ?k2 ?k3 ?ku ?_;(case k1=>k_asm);(case k2=>k_asm);(case k3=>exact sym_len hT hlk.2 li9 hsn9);(case ku=>first | exact updR (pre := [_,_,_,_,_]) ntR9 ⟨nJ9,by k_ne,nI9,nK9,Ne.symm nRX9,trivial⟩ | exact updR (pre := [_,_,_,_]) ntR9 ⟨by k_ne,nI9,nK9,Ne.symm nRX9,trivial⟩)) | fail);intro h9 F9 N9;(try dsimp only [List.cons_append,List.nil_append] at N9))
  k_with "call builtin:str.join cons nil" => (k_dflt (refine' join_rows ?k1 ?k2 ?k3 ?k4 ?k5 ?_;(case k1=>k_asm);(case k2=>k_mem);(case k3=>exact hs9);(case k4=>decide);(case k5=>exact sym_b hT hlk.2 (Nat.le_of_eq (sa_len sa9))));intro z9 t9 k9)
  k_with "compareOp NotEq ref ref" => ((with_reducible show wpAny _ _ (compareOp CmpOp.NotEq (Value.ref _) (Value.ref _)) _ _ _);k_dflt (refine' ne_nilN ?k1 ?k2 ?k3 ?k4 ?_;(case k1=>k_asm);(case k3=>k_mem);(case k2=>k_mem);(case k4=>ktr_units)))
  k_with "add" => (k_dflt (refine' add_strC ?k1 ?_;(case k1=>((try simp only [PySem.Str.length_append]);omega)));intro t9 k9)
  k_with "forE" => ((rename Fr _ _ _ _=>lF');(with_unfolding_all refine' For_turns lF' ?_;k_whole))
  k_with "exprs" => ((with_reducible show wpAny _ _ (PySem.exec (PySem.Stmt.Expr (PySem.Expr.Call (PySem.Expr.Attribute (PySem.Expr.Call _ _ _ _) _ _) _ _ _) _) _) _ _ _);first | (k_dflt (refine' setapp_hit ?k1 ?k4 ?kK rfl ?kc1 ?kc2 rfl ?ksw ?kn ?ks ?kd ?kM hdS ?ke ?km ?kD ?kl ?kz ?kX ?kc ?kU ?_;(case k1=>k_asm);(case k4=>k_asm);(case kK=>first | exact rfl | assumption);(case kc1=>exact ⟨_,fun _=>rfl⟩);(case kc2=>exact ⟨_,fun _=>rfl⟩);(case kn=>rfl);(case ks=>rfl);(case kd=>rfl);(case ke=>rfl);(case ksw=>rfl);(case kM=>(first | exact hmS | exact .tail _ hmS | exact .tail _ (.tail _ hmS) | exact .tail _ (.tail _ (.tail _ hmS)) | exact .tail _ (.tail _ (.tail _ (.tail _ hmS))) | exact .tail _ (.tail _ (.tail _ (.tail _ (.tail _ hmS)))) | exact .tail _ (.tail _ (.tail _ (.tail _ (.tail _ (.tail _ hmS))))) | exact .tail _ (.tail _ (.tail _ (.tail _ (.tail _ (.tail _ (.tail _ hmS))))))));(case km=>k_mem);(case kD=>assumption);(case kl=>assumption);(case kz=>exact Nat.le_of_ble_eq_true rfl);(case kX=>k_mem);(case kc=>exact Nat.le_of_ble_eq_true rfl);(case kU=>k_upd));intro h9 k9 F9 N9;(try dsimp only [List.cons_append,List.nil_append] at N9)) | (k_dflt (refine' setapp_new ?k1 ?k4 ?kK rfl ?kc1 ?kc2 rfl ?ksw ?kn ?ks ?kd ?kM hdS ?ke ?kU ?kD ?kl ?kv ?kz ?_;(case k1=>k_asm);(case k4=>k_asm);(case kK=>first | exact rfl | assumption);(case kc1=>exact ⟨_,fun _=>rfl⟩);(case kc2=>exact ⟨_,fun _=>rfl⟩);(case kn=>rfl);(case ks=>rfl);(case kd=>rfl);(case ke=>rfl);(case ksw=>rfl);(case kM=>(first | exact hmS | exact .tail _ hmS | exact .tail _ (.tail _ hmS) | exact .tail _ (.tail _ (.tail _ hmS)) | exact .tail _ (.tail _ (.tail _ (.tail _ hmS))) | exact .tail _ (.tail _ (.tail _ (.tail _ (.tail _ hmS)))) | exact .tail _ (.tail _ (.tail _ (.tail _ (.tail _ (.tail _ hmS))))) | exact .tail _ (.tail _ (.tail _ (.tail _ (.tail _ (.tail _ (.tail _ hmS))))))));(case kU=>k_updF);(case kD=>assumption);(case kl=>assumption);(case kv=>first | exact vat_nil | exact (vat_skip (by assumption)).trans vat_nil | exact (vat_skip (by assumption)).trans ((vat_skip (by assumption)).trans vat_nil));(case kz=>exact Nat.le_of_ble_eq_true rfl));intro X9 o9 h9 k9 F9 N9 lx9 hd9;(try dsimp only at N9);(try dsimp only [List.cons_append,List.nil_append] at hd9);(try k_lt lx9)))
  k_with "execs cons" => ((with_reducible show wpAny _ _ (PySem.execs (PySem.Stmt.Assign [PySem.Expr.Name (Str.ofString "rows") _] _ _ :: _) _) _ _ _);k_dflt (refine' htl _ ⟨_,_,_,_,_,_,_,rfl,?f1,?f2,?f3,?f4,?f5,?f6,?f7,?f8⟩;(case f1=>k_asm);(case f3=>k_asm);(case f5=>first | exact hd9 | assumption);(case f4=>k_mem);(case f6=>assumption);(case f8=>kcj_all);(case f2=>(intro y hy;first | (simp only [if_neg hy];done) | (simp only [if_neg hy];rfl)));(case f7=>first | (rw [symT_eq];with_unfolding_all exact .cons (vs := [_,_,_]) (c := 3) (by k_mem) (.cons _ _ (.cons _ _ (.cons _ _ .nil))) (.cons (vs := [_]) (c := 1) (by k_mem) (.cons _ _ .nil) .nil)) | (rw [symT_ne hb9];with_unfolding_all exact .cons (vs := [_,_]) (c := 2) (by k_mem) (.cons _ _ (.cons _ _ .nil)) (.cons (vs := [_]) (c := 1) (by k_mem) (.cons _ _ .nil) (.cons (vs := [_]) (c := 1) (by k_mem) (.cons _ _ .nil) .nil))))))
  refine wpAny_call ?_
  k_dflt cell_enter
  (try (rename Fr _ _ _ _=>Fm9;replace Fm9 : Fr _ _ _ (fun y=>List.lookup y [(Str.ofString "symbols",.ref S),(Str.ofString "base",.int base tbb),(Str.ofString "octets",.bytes B tb)]) := Fm9))
  refine with_tail (symT base last b2) (by k_asm) (by k_asm) (fun h9 tk9 nw9 d9 od9 on9 kvs9 F9 N9 hm9 hd9 lo9 hn9 hnw9=>?tail) (fun htl=>?head)
  case head =>
    by_cases hb9 : last = base
    · subst hb9
      k_steps
      all_goals (first | (refine' cb_retS hret ?e1 ?e2 ?e3;(case e2=>k_asm);(case e3=>(refine' cb_drop ?cbN ?cbS;(case cbN=>assumption);(case cbS=>intro p9 hp9;first | exact .tail _ (.tail _ (.tail _ (hnw9 p9 hp9))) | exact .tail _ (.tail _ (hnw9 p9 hp9)))));(case e1=>first | exact sym_e2 (sa_len sa9) hs9 (by assumption) | exact sym_e3 (sa_len sa9) hs9 (by assumption))))
    · have hb8 := Ne.symm hb9
      k_steps
      all_goals (first | (refine' cb_retS hret ?e1 ?e2 ?e3;(case e2=>k_asm);(case e3=>(refine' cb_drop ?cbN ?cbS;(case cbN=>assumption);(case cbS=>intro p9 hp9;first | exact .tail _ (.tail _ (.tail _ (hnw9 p9 hp9))) | exact .tail _ (.tail _ (hnw9 p9 hp9)))));(case e1=>first | exact sym_e2 (sa_len sa9) hs9 (by assumption) | exact sym_e3 (sa_len sa9) hs9 (by assumption))))
  case tail =>
    k_steps
    all_goals (first | (refine' cb_retS hret ?e1 ?e2 ?e3;(case e2=>k_asm);(case e3=>(refine' cb_drop ?cbN ?cbS;(case cbN=>assumption);(case cbS=>intro p9 hp9;first | exact .tail _ (.tail _ (.tail _ (hnw9 p9 hp9))) | exact .tail _ (.tail _ (hnw9 p9 hp9)))));(case e1=>first | exact sym_e2 (sa_len sa9) hs9 (by assumption) | exact sym_e3 (sa_len sa9) hs9 (by assumption))))
end
section
open PyProof.Rows.LCg PySem.Calls
theorem lrow_eb {v a t : Int} : hexF a ++ Str.ofString ": " ++ hexF v ++ Str.ofString "  " ++ disF v ++ (bif decide (0 ≤ t) then Str.ofString " -> " ++ hexF t else Str.ofString "") = rowF v a t := by
  by_cases h : 0 ≤ t
  · rw [decide_eq_true h];exact lrow_e2 h
  · rw [decide_eq_false h];exact lrow_e1 h
theorem c_rows {w : World} {mean : ExcName → Option Value} {mg mb : Str → Option Value} {news : List (Addr × Obj)} (D Lr : Addr) (vs us : List Value) (k1 k2 : Nat) (ws ls : List Int) (base : Int) (tbb : Tok) :
    CbK w mean mg mb 497 22 news (((D,listOf (List.toArray vs) k1) ∈ news) ∧ ((Lr,listOf (List.toArray us) k2) ∈ news) ∧ IntsAre vs ws ∧ IntsAre us ls ∧ ws.length ≤ 25 ∧ ls.length ≤ 3 ∧ (∀ v ∈ ws,0 ≤ v ∧ v < 2 ^ 32) ∧ (∀ v ∈ ls,0 ≤ v ∧ v < 256) ∧ 0 ≤ base ∧ base < 2 ^ 32) [.ref D,.ref Lr,.int base tbb] (fun h₀ L m s Q=>∀ (D : Addr) (ys : List Value) (k : Nat) (h' : Heap) (tk' : Nat),StrsAre ys (lrowsF ws ls base) → Fr h₀ L h' m → News h₀ L h' ((D,listOf (List.toArray ys) k) :: news) → Q (.ref D) { s with heap := h',toks := tk' }) := by
  dsimp only [CbK]
  k_fill
  intros
  rename_i hpre _ _ hret
  k_with_none
  k_with "bn" => first
    | exact Bn.add
    | exact Bn.sub
    | (apply Bn.mulR;decide +kernel)
    | (apply Bn.div;decide +kernel)
    | (apply Bn.mod;decide +kernel)
    | (apply Bn.pow;decide +kernel)
    | (apply Bn.shr;decide +kernel)
    | exact Bn.and
  k_with "ev" => first
    | exact Ev.int
    | exact Ev.str
    | (apply Ev.loc;rfl;rfl)
    | (apply Ev.neg;k_extra "ev")
    | (apply Ev.bin;k_extra "ev";k_extra "ev";k_extra "bn")
  k_with "cm" => first
    | exact Cm.lt
    | exact Cm.le
    | exact Cm.eqI
    | exact Cm.eqS
    | exact Cm.neS
  k_with "te" => first
    | (apply Te.cmp;k_extra "ev";k_extra "ev";k_extra "cm";rfl)
    | (apply Te.and2;k_extra "te";(intro _;k_extra "te"))
    | (apply Te.and3;k_extra "te";(intro _;k_extra "te");(intro _ _;k_extra "te"))
  k_with "bn" => first
    | (apply Bn.addS;((try simp only [PySem.Str.length_append,hexF_len]);first | omega | ((cases decide (0 ≤ tgtF _ _)) <;> (simp only [cond_true,cond_false,PySem.Str.length_append,hexF_len];omega))))
  k_with "cm" => first
    | exact Cm.ge
  k_with "ev" => first
    | (refine' Ev.call1 (D := 1) ?zf ?za0 ?zc ?zd ?zs0 ?zk;(case zf=>(apply Ev.glo;rfl;exact gk_lhexed _));(case za0=>k_extra "ev");(case zd=>rfl);(case zs0=>exact fun _=>rfl);(case zk=>exact kk_lhexed _);(case zc=>(rintro _ ⟨t0,rfl⟩;exact Cp.ofS (c_lhex _ _) (by first | assumption | exact ⟨of_decide_eq_true (by assumption),tgt_lt _ _⟩))))
    | (refine' Ev.call1 (D := 14) ?zf ?za0 ?zc ?zd ?zs0 ?zk;(case zf=>(apply Ev.glo;rfl;exact gk_dis _));(case za0=>k_extra "ev");(case zd=>rfl);(case zs0=>exact fun _=>rfl);(case zk=>exact kk_dis _);(case zc=>(rintro _ ⟨t0,rfl⟩;exact Cp.ofS (c_dis _ _) (by assumption))))
    | (apply Ev.ifSc;k_extra "te";(intro hq9;k_extra "ev");(intro hq9;k_extra "ev"))
  k_with "wk9" => (k_dflt ((case k1=>k_asm);(case k2=>k_asm);(case k3=>k_asm);(case k4=>first | k_asm | exact news_tail (by assumption));(case k5=>k_asm);(case kK=>first | exact rfl | assumption);(case kd=>ktr_room);(case ku=>ktr_units)))
  k_with "brE" => ((first | (k_dflt (refine' ev_walkI (D := 14) ?h ?hl ?k1 ?k2 ?k3 ?k4 ?k5 ?kK ?kd ?ku ?_;k_extra "wk9";(case hl=>exact Locs.str (x := Str.ofString "row_now") rfl (Locs.int (x := Str.ofString "goal") rfl (Locs.int (x := Str.ofString "at") rfl (Locs.nil'))));(case h=>k_extra "ev"))) | (k_dflt (refine' ev_walkS (D := 14) ?h ?hl ?k1 ?k2 ?k3 ?k4 ?k5 ?kK ?kd ?ku ?_;k_extra "wk9";(case hl=>exact Locs.str (x := Str.ofString "row_now") rfl (Locs.int (x := Str.ofString "goal") rfl (Locs.int (x := Str.ofString "at") rfl (Locs.nil'))));(case h=>k_extra "ev"))) | (k_dflt (refine' ev_walkI (D := 14) ?h ?hl ?k1 ?k2 ?k3 ?k4 ?k5 ?kK ?kd ?ku ?_;k_extra "wk9";(case hl=>exact Locs.int (x := Str.ofString "goal") rfl (Locs.str (x := Str.ofString "said") rfl (Locs.int (x := Str.ofString "sum_now") rfl (Locs.int (x := Str.ofString "at") rfl (Locs.nil')))));(case h=>k_extra "ev"))) | (k_dflt (refine' ev_walkS (D := 14) ?h ?hl ?k1 ?k2 ?k3 ?k4 ?k5 ?kK ?kd ?ku ?_;k_extra "wk9";(case hl=>exact Locs.int (x := Str.ofString "goal") rfl (Locs.str (x := Str.ofString "said") rfl (Locs.int (x := Str.ofString "sum_now") rfl (Locs.int (x := Str.ofString "at") rfl (Locs.nil')))));(case h=>k_extra "ev"))) | (k_dflt (refine' ev_walkI (D := 14) ?h ?hl ?k1 ?k2 ?k3 ?k4 ?k5 ?kK ?kd ?ku ?_;k_extra "wk9";(case hl=>exact Locs.str (x := Str.ofString "said") rfl (Locs.int (x := Str.ofString "sum_now") rfl (Locs.int (x := Str.ofString "at") rfl (Locs.nil'))));(case h=>k_extra "ev"))) | (k_dflt (refine' ev_walkS (D := 14) ?h ?hl ?k1 ?k2 ?k3 ?k4 ?k5 ?kK ?kd ?ku ?_;k_extra "wk9";(case hl=>exact Locs.str (x := Str.ofString "said") rfl (Locs.int (x := Str.ofString "sum_now") rfl (Locs.int (x := Str.ofString "at") rfl (Locs.nil'))));(case h=>k_extra "ev"))) | (k_dflt (refine' ev_walkI (D := 14) ?h ?hl ?k1 ?k2 ?k3 ?k4 ?k5 ?kK ?kd ?ku ?_;k_extra "wk9";(case hl=>exact Locs.int (x := Str.ofString "at") rfl (Locs.nil'));(case h=>k_extra "ev"))) | (k_dflt (refine' ev_walkS (D := 14) ?h ?hl ?k1 ?k2 ?k3 ?k4 ?k5 ?kK ?kd ?ku ?_;k_extra "wk9";(case hl=>exact Locs.int (x := Str.ofString "at") rfl (Locs.nil'));(case h=>k_extra "ev"))));intro t9 h9 tk9 F9 N9;(try dsimp only))
  k_with "eval BinOp BinOp Add Name" => (k_extra "brE")
  k_with "eval BinOp Name Add IfExp" => (k_extra "brE")
  k_with "eval BinOp BinOp Mod BinOp" => (k_extra "brE")
  k_with "eval BinOp BinOp Mod Constant" => (k_extra "brE")
  have hmD := hpre.1
  have hmL := hpre.2.1
  have ia := hpre.2.2.1
  have iu := hpre.2.2.2.1
  have hwl := hpre.2.2.2.2.1
  have hll := hpre.2.2.2.2.2.1
  have hW := hpre.2.2.2.2.2.2.1
  have hL := hpre.2.2.2.2.2.2.2.1
  have hb := hpre.2.2.2.2.2.2.2.2
  clear hpre
  have hL2 := getD_in hL
  have hul := IntsAre.length iu
  have p1 := fig_len hL2 hll
  have p2 : (Str.ofString ": ").length = 2 := rfl
  have p3 : (Str.ofString ": .byte ").length = 8 := rfl
  have p4 : (Str.ofString "  ").length = 2 := rfl
  have p5 : (Str.ofString " -> ").length = 4 := rfl
  have p6 : (Str.ofString "").length = 0 := rfl
  k_with "pow" => ((with_reducible refine pow_int_small ?kb1 ?kb2 ?kb3 ?_);(case kb1=>decide);(case kb2=>decide);(case kb3=>decide))
  k_with "for" => ((rename Fr _ _ _ _=>lF');(k_dflt (refine' for_made lF' ?_)))
  k_with "ne" => ((with_reducible show wpAny _ _ (compareOp CmpOp.NotEq (Value.ref _) (Value.ref _)) _ _ _);k_dflt (refine' ne_nilN (vs := us) ?k1 ?k2 ?k3 ?k4 ?_;(case k1=>k_asm);(case k3=>k_mem);(case k2=>(first | assumption | exact List.mem_cons_of_mem _ (by assumption) | exact List.mem_cons_of_mem _ (List.mem_cons_of_mem _ (by assumption)) | exact List.mem_cons_of_mem _ (List.mem_cons_of_mem _ (List.mem_cons_of_mem _ (by assumption))) | exact List.mem_cons_of_mem _ (List.mem_cons_of_mem _ (List.mem_cons_of_mem _ (List.mem_cons_of_mem _ (by assumption))))));(case k4=>ktr_units)))
  k_with "call builtin:list.append cons nil" => (k_dflt (refine' append_mine ?k1 ?k2 ?k3 ?ku ?_;(case k1=>k_asm);(case k2=>k_asm);(case k3=>(rw [idx_len hs9];exact Nat.le_trans (lrows_b hwl hn9 hW).2 (by decide)));(case ku=>first | exact Upd.tail (Ne.symm o9.2.2.1) (Upd.tail (Nat.ne_of_gt (And.left (And.right (by assumption)))) (Upd.tail (Nat.ne_of_gt (And.left (by assumption))) (Upd.head fun p9 hp9=>Nat.ne_of_lt ((by assumption : ∀ p ∈ news,p.1 < _) p9 hp9)))) | exact Upd.tail (Ne.symm (off9 _ (.tail _ (.head _)))) (Upd.tail (Nat.ne_of_gt (And.left (by assumption))) (Upd.head fun p9 hp9=>Nat.ne_of_lt ((by assumption : ∀ p ∈ news,p.1 < _) p9 hp9))) | exact Upd.tail (Nat.ne_of_gt (And.left (by assumption))) (Upd.head fun p9 hp9=>Nat.ne_of_lt ((by assumption : ∀ p ∈ news,p.1 < _) p9 hp9))));intro h9 F9 N9)
  k_with "eval Call Name cons nil" => ((with_reducible show wpAny _ _ (PySem.eval (PySem.Expr.Call (PySem.Expr.Name (PySem.Str.ofString "disassemble") _) _ _ _) _) _ _ _);refine Call_ ?_)
  k_with "call ref cons nil" => ((with_reducible show wpAny _ _ (PySem.call (Value.ref 372) _ _) _ _ _);k_dflt (first | refine' cb_use (c_dis _ _) ?k1 ?k2 ?k3 ?k4 ?k5 ?kK ?kp ?kd ?ku ?_);(case k1 | k2 | k3 | k4 | k5=>k_asm);(case kK=>first | exact rfl | assumption);(case kp=>assumption);(case kd=>ktr_room);(case ku=>ktr_units);intro t9 h9 tk9 F9 N9;(try dsimp only);(try k_fold))
  k_with "eval Call Name cons nil" => ((with_reducible show wpAny _ _ (PySem.eval (PySem.Expr.Call (PySem.Expr.Name (PySem.Str.ofString "_law_hexed") _) _ _ _) _) _ _ _);refine Call_ ?_)
  k_with "call ref cons nil" => ((with_reducible show wpAny _ _ (PySem.call (Value.ref 454) _ _) _ _ _);k_dflt (first | refine' cb_use (c_lhex _ _) ?k1 ?k2 ?k3 ?k4 ?k5 ?kK ?kp ?kd ?ku ?_);(case k1 | k2 | k3 | k4 | k5=>k_asm);(case kK=>first | exact rfl | assumption);(case kp=>first | assumption | exact ⟨(by with_reducible assumption),tgt_lt _ _⟩);(case kd=>ktr_room);(case ku=>ktr_units);intro t9 h9 tk9 F9 N9;(try dsimp only);(try k_fold))
  k_with "eval Call Name cons nil" => ((with_reducible show wpAny _ _ (PySem.eval (PySem.Expr.Call (PySem.Expr.Name (PySem.Str.ofString "_law_target") _) _ _ _) _) _ _ _);refine Call_ ?_)
  k_with "call ref cons nil" => ((with_reducible show wpAny _ _ (PySem.call (Value.ref 492) _ _) _ _ _);k_dflt (first | refine' cb_use (c_lt _ _ _ _ _) ?k1 ?k2 ?k3 ?k4 ?k5 ?kK ?kp ?kd ?ku ?_);(case k1 | k2 | k3 | k4 | k5=>k_asm);(case kK=>first | exact rfl | assumption);(case kp=>assumption);(case kd=>ktr_room);(case ku=>ktr_units);intro t9 h9 tk9 F9 N9;(try dsimp only);(try k_fold))
  k_with "call builtin:str.join cons nil" => (k_dflt (refine' join_fig (ks := ls) ?k1 ?k2 ?k3 ?k4 ?k5 ?k6 ?_;(case k1=>k_asm);(case k2=>k_mem);(case k3=>exact hL2);(case k4=>exact (Eq.trans (by assumption) (IntsAre.length iu)));(case k5=>exact hll);(case k6=>(rw [← IntsAre.length iu];assumption)));intro t9 k9)
  k_with "ForLst" => (k_dflt (refine' ForLst.mk' _ vs k1 _ _ (lrJ _ _ _ news ws base) rfl rfl ?k1 ?k2 ?k3 ?k4 ?kst ?kfn;(case k1=>k_asm);(case k2=>k_asm);(case k3=>(refine lr_start (t := tbb) (k := 0) ?_ ?_ ?_ ?_ ?_ hb <;> rfl));(case k4=>(rintro i9 m9 n9 ⟨o19,o29,o39,o49,ta9,rs9,k9,e1,e2,e3,e4⟩;subst e2;exact .tail _ (.tail _ hmD)));(case' kst=>(intro i9 v9 m9 n9 h9 tk9 I9 oI9 hv9 hJ9 F9 N9 off9;refine lrJ.opI hJ9 F9 N9 off9 ?_;clear F9 N9 off9 hJ9;intro o19 o29 o39 o49 ta9 rs9 k9 hs9 hn9 F9 N9 off9;obtain ⟨t9,e9,g9⟩ := int_at ia i9 v9 hv9;subst e9;have hw9 := hW _ (List.mem_of_getElem? g9);have q1 := disF_len _ hw9;have ha9 := at_ok base i9;have hi9 := (List.getElem?_eq_some_iff.mp g9).1;(try dsimp only)));(case' kfn=>(intro h9 tk9 m9 n9 F9 N9 hJ9;refine lrJ.opZ hJ9 F9 N9 ?_;clear F9 N9 hJ9;intro o19 o29 o39 o49 ta9 rs9 k9 hs9 hn9 F9 N9;have ha9 := at_ok base vs.length;(try dsimp only)))))
  k_with "StepE" => (k_dflt (refine' StepE.mk' _ _ _ _ rfl ?k1 ?k2 ?k3 ?kj;(case k1=>k_asm);(case k2=>k_asm);(case k3=>first | exact off9 | exact off_upd off9);(case kj=>exact lr_next hi9 hs9 lrow_eb)))
  k_with "add" => (k_dflt (refine' add_strC ?k1 ?_;(case k1=>((try simp only [PySem.Str.length_append,hexF_len]);omega)));intro t9 k9)
  k_with "comp" => ((with_reducible show wpAny _ _ (PySem.eval (PySem.Expr.ListComp _ [⟨_,_,[],_⟩] _ _) _) _ _ _);k_dflt (refine' comp_list (R := fun i y=>∃ t,y = Value.str (Str.ofString (toString (ls.getD i 0))) t) ?k1 ?k2 ?k3 ?k4 ?k5 ?k6 ?_;(case k1=>k_asm);(case k2=>with_unfolding_all rfl);(case k3=>decide);(case k4=>rfl);(case k5=>decide);(case k6=>rfl)))
  k_with "SrcLst" => (k_dflt (refine' SrcLst.mk' _ us _ _ rfl rfl ?k1 ?k2 ?k3 ?k4 ?kel ?kq;(case k1=>k_asm);(case k2=>k_asm);(case k3=>(first | assumption | exact List.mem_cons_of_mem _ (by assumption) | exact List.mem_cons_of_mem _ (List.mem_cons_of_mem _ (by assumption)) | exact List.mem_cons_of_mem _ (List.mem_cons_of_mem _ (List.mem_cons_of_mem _ (by assumption))) | exact List.mem_cons_of_mem _ (List.mem_cons_of_mem _ (List.mem_cons_of_mem _ (List.mem_cons_of_mem _ (by assumption))))));(case k4=>(rw [sizeLine_eq];omega));(case' kel=>(intro g9 i9 hi9 v9 I9 oI9 C9 oC9 D9 oD9 m9 h9 tk9 E9 hv9 hC9 hx9 F9 N9 off9 ne9;obtain ⟨t9,e9,g9⟩ := int_at iu i9 v9 hv9;subst e9;have r9 := hL _ (List.mem_of_getElem? g9);(try simp only [PyProof.Rows.LCg.Off3,and_true] at off9);(try dsimp only)));(case' kq=>(intro ys9 D9 h9 tk9 hl9 hy9 F9 N9 o9;(try simp only [PyProof.Rows.LCg.Off1,and_true] at o9);(try dsimp only)))))
  k_with "Plain" => (k_dflt (refine' plain_intro ?k1 ?k2 ?k3 ?kr;(case k1=>k_asm);(case k2=>k_asm);(case k3=>kcj_all);(case kr=>k_extra "elt")))
  k_with "free" => ((with_reducible show wpAny _ _ (PySem.eval (PySem.Expr.Name _ _) (compEnvC _ _ _ _)) _ _ _);k_dflt (refine' ld_freeC ?k1 ?k2 ?k3 ?k4 ?_ ?k5 ?k6;(case k5=>rfl);(case k6=>rfl);(case k1=>k_asm);(case k2=>rfl);(case k3=>k_mem);(case k4=>k_asm);k_whole))
  k_with "elt" => exact ⟨_,rfl⟩
  refine wpAny_call ?_
  k_dflt cell_enter
  (try (rename Fr _ _ _ _=>Fm9;replace Fm9 : Fr _ _ _ (fun y=>List.lookup y [(Str.ofString "base",.int base tbb),(Str.ofString "left",.ref Lr),(Str.ofString "drawn",.ref D)]) := Fm9))
  k_steps
  all_goals (first | (refine' hret _ _ _ _ _ ?e1 ?e2 ?e3;(case e1=>first | (have q9 := (by with_reducible assumption : us = []);refine' (lr_e2 ia rfl ?f1 iu q9 : StrsAre _ (lrowsF ws ls base));exact hs9) | (have q9 := (by with_reducible assumption : ¬ us = []);exact lr_e1 (t := t9) ia rfl hs9 iu q9));(case e2=>k_asm);(case e3=>first | k_asm | (refine' cb_drop ?cbN ?cbS;(case cbN=>assumption);(case cbS=>first | exact drop1 | exact drop2 | exact drop3)))))
end
section
open PyProof.Rows.LCg PySem.Calls
theorem c_src {w : World} {mean : ExcName → Option Value} {mg mb : Str → Option Value} {news : List (Addr × Obj)} (B : Array UInt8) (tb : Tok) (ks : List Int) :
    Cb w mean mg mb 396 18 news (KBw.bInts B = ks ∧ ks.length ≤ 100 ∧ ∀ v ∈ wordsF ks,0 ≤ v ∧ v < 2 ^ 32) [.bytes B tb] (fun t=>.str (srcF ks) t) := by
  dsimp only [Cb]
  k_fill
  intros
  rename_i hpre _ _ hret
  k_with_none
  have hB := hpre.1
  have hk := hpre.2.1
  have hW := hpre.2.2
  clear hpre
  have p1 := leftF_len hB
  have p2 : (Str.ofString "    ").length = 4 := rfl
  have p3 : (Str.ofString "\n").length = 1 := rfl
  k_with "eval Call Name cons nil" => ((with_reducible show wpAny _ _ (PySem.eval (PySem.Expr.Call (PySem.Expr.Name (PySem.Str.ofString "words_of") _) _ _ _) _) _ _ _);refine Call_ ?_)
  k_with "call ref cons nil" => ((with_reducible show wpAny _ _ (PySem.call (Value.ref 384) _ _) _ _ _);k_dflt (first | refine' cbk_use (c_words _ _ ks) ?k1 ?k2 ?k3 ?k4 ?k5 ?kK ?kp ?kd ?ku ?_);(case k1 | k2 | k3 | k4 | k5=>k_asm);(case kK=>first | exact rfl | assumption);(case kp=>exact ⟨hB,hk⟩);(case kd=>ktr_room);(case ku=>ktr_units);intro D9 ys9 h9 tk9 ia9 io9 F9 N9;(try dsimp only);(try k_fold))
  k_with "eval Call Name cons nil" => ((with_reducible show wpAny _ _ (PySem.eval (PySem.Expr.Call (PySem.Expr.Name (PySem.Str.ofString "left_octets") _) _ _ _) _) _ _ _);refine Call_ ?_)
  k_with "call ref cons nil" => ((with_reducible show wpAny _ _ (PySem.call (Value.ref 389) _ _) _ _ _);k_dflt (first | refine' cb_use (c_left _ _ ks) ?k1 ?k2 ?k3 ?k4 ?k5 ?kK ?kp ?kd ?ku ?_);(case k1 | k2 | k3 | k4 | k5=>k_asm);(case kK=>first | exact rfl | assumption);(case kp=>exact ⟨hB,hk⟩);(case kd=>ktr_room);(case ku=>ktr_units);intro t9 h9 tk9 F9 N9;(try dsimp only);(try k_fold))
  k_with "for" => ((rename Fr _ _ _ _=>lF');(k_dflt (refine' for_made lF' ?_)))
  k_with "call builtin:list.append cons nil" => (k_dflt (refine' append_mine ?k1 ?k2 ?k3 ?ku ?_;(case k1=>k_asm);(case k2=>k_asm);(case k3=>(rw [idx_len hs9];exact Nat.le_trans (src_b1 hk hW).2 (by decide)));(case ku=>first | exact Upd.tail (Ne.symm (off9 _ (.tail _ (.head _)))) (Upd.tail (Ne.symm (io9 _ (.head _))) (Upd.head fun p9 hp9=>Nat.ne_of_lt ((by assumption : ∀ p ∈ news,p.1 < _) p9 hp9))) | exact Upd.tail (Ne.symm (io9 _ (.head _))) (Upd.head fun p9 hp9=>Nat.ne_of_lt ((by assumption : ∀ p ∈ news,p.1 < _) p9 hp9))));intro h9 F9 N9)
  k_with "eval Call Name cons nil" => ((with_reducible show wpAny _ _ (PySem.eval (PySem.Expr.Call (PySem.Expr.Name (PySem.Str.ofString "disassemble") _) _ _ _) _) _ _ _);refine Call_ ?_)
  k_with "call ref cons nil" => ((with_reducible show wpAny _ _ (PySem.call (Value.ref 372) _ _) _ _ _);k_dflt (first | refine' cb_use (c_dis _ _) ?k1 ?k2 ?k3 ?k4 ?k5 ?kK ?kp ?kd ?ku ?_);(case k1 | k2 | k3 | k4 | k5=>k_asm);(case kK=>first | exact rfl | assumption);(case kp=>assumption);(case kd=>ktr_room);(case ku=>ktr_units);intro t9 h9 tk9 F9 N9;(try dsimp only);(try k_fold))
  k_with "call builtin:str.join cons nil" => (k_dflt (refine' join_rows ?k1 ?k2 ?k3 ?k4 ?k5 ?_;(case k1=>k_asm);(case k2=>k_mem);(case k3=>first | exact hs9 | exact strs_snocK hs9);(case k4=>decide);(case k5=>first | exact ⟨(src_b1 hk hW).1,Nat.le_trans (src_b1 hk hW).2 (by decide)⟩ | exact src_b2 (src_b1 hk hW) (by rw [PySem.Str.length_append];omega)));intro z9 t9 k9)
  k_with "ForLst" => (k_dflt (refine' ForLst.mk' _ ys9 _ _ _ (srcJ _ D9 ys9 _ news (wordsF ks)) rfl rfl ?k1 ?k2 ?k3 ?k4 ?kst ?kfn;(case k1=>k_asm);(case k2=>k_asm);(case k3=>(refine src_start ?_;rfl));(case k4=>(rintro i9 m9 n9 ⟨o9,rs9,k9,e1,e2,e3⟩;subst e2;exact .head _));(case' kst=>(intro i9 v9 m9 n9 h9 tk9 I9 oI9 hv9 hJ9 F9 N9 off9;refine srcJ.opI hJ9 F9 N9 off9 ?_;clear F9 N9 off9 hJ9;intro o9 rs9 k9 hs9 F9 N9 off9;obtain ⟨t9,e9,g9⟩ := int_at ia9 i9 v9 hv9;subst e9;have hw9 := hW _ (List.mem_of_getElem? g9);have q1 := disF_len _ hw9;have q2 : (Str.ofString "    ").length = 4 := rfl;(try dsimp only)));(case' kfn=>(intro h9 tk9 m9 n9 F9 N9 hJ9;refine srcJ.opZ hJ9 F9 N9 ?_;clear F9 N9 hJ9;intro o9 rs9 k9 hs9 F9 N9;(try dsimp only)))))
  k_with "StepE" => (k_dflt (refine' StepE.mk' _ _ _ _ rfl ?k1 ?k2 ?k3 ?kj;(case k1=>k_asm);(case k2=>k_asm);(case k3=>first | exact off9 | exact off_upd off9);(case kj=>exact src_next g9 hs9)))
  k_with "add" => (k_dflt (refine' add_strC ?k1 ?_;(case k1=>((try simp only [PySem.Str.length_append]);omega)));intro t9 k9)
  refine wpAny_call ?_
  k_dflt cell_enter
  (try (rename Fr _ _ _ _=>Fm9;replace Fm9 : Fr _ _ _ (fun y=>List.lookup y [(Str.ofString "octets",.bytes B tb)]) := Fm9))
  k_steps
  all_goals (first | (refine' cb_retS hret ?e1 ?e2 ?e3;(case e2=>k_asm);(case e3=>first | k_asm | (refine' cb_drop ?cbN ?cbS;(case cbN=>assumption);(case cbS=>kcj_all)));(case e1=>first | exact src_e1 ia9 (by assumption) | exact src_e2 ia9 (by assumption))))
end
section
open PyProof.V PySem.Spec
section
variable {w : World} {mean : ExcName → Option Value} {mg mb : Str → Option Value} {news : List (Addr × Obj)} {ws ls : List Int} {base : Int}
theorem drawn_in {ws ls : List Int} {base : Int} (d : Drawn ws ls base) : ∀ v ∈ wordsF (octF ws ls),0 ≤ v ∧ v < 2 ^ 32 := by rw [(oct_words d).1];exact d.words
theorem oct_len {ws ls : List Int} {base : Int} (d : Drawn ws ls base) : (octF ws ls).length ≤ 100 := by
  unfold octF
  rw [List.length_append,List.length_flatten,List.map_map]
  have : ∀ l : List Int,((l.map (List.length ∘ KTBy.little 4))).sum = 4 * l.length := fun l=>by
    induction l with
    | nil=>rfl
    | cons x r ih=>rw [List.map_cons,List.sum_cons,ih];show 4 + _ = _;rw [List.length_cons];omega
  rw [this]
  have := d.few
  have := d.left
  omega
theorem c_lstD (d : Drawn ws ls base) (B : Array UInt8) (tb tbb : Tok) : Cb w mean mg mb 403 20 news (KBw.bInts B = octF ws ls) [.bytes B tb,.int base tbb] (fun t=>.str (textF (lrowsF ws ls base)) t) := by
  intro dp un gd cn cs a ccd cl outer A₀ base' h₀ L m s Q E B' F X N T hk hp hd hu hR
  rw [← lst_due d] at hR
  exact c_lst B tb (octF ws ls) base tbb dp un gd cn cs a ccd cl outer A₀ base' h₀ L m s Q E B' F X N T hk ⟨hp,oct_len d,drawn_in d,d.b0,d.b1⟩ hd hu hR
theorem c_srcD (d : Drawn ws ls base) (B : Array UInt8) (tb : Tok) : Cb w mean mg mb 396 18 news (KBw.bInts B = octF ws ls) [.bytes B tb] (fun t=>.str (textF (lsrcF ws ls)) t) := by
  intro dp un gd cn cs a ccd cl outer A₀ base' h₀ L m s Q E B' F X N T hk hp hd hu hR
  rw [← src_due d] at hR
  exact c_src B tb (octF ws ls) dp un gd cn cs a ccd cl outer A₀ base' h₀ L m s Q E B' F X N T hk ⟨hp,oct_len d,drawn_in d⟩ hd hu hR
theorem lst_lines (d : Drawn ws ls base) : Txt.lines (lstF (octF ws ls) base) = lrowsF ws ls base ∧ LinesOk (lstF (octF ws ls) base) := by
  obtain ⟨h1,h2,h3,_,h5⟩ := lines_due d
  unfold LinesOk
  rw [lst_due d,h1]
  exact ⟨rfl,h2,h3,h5⟩
theorem c_symD (d : Drawn ws ls base) (B : Array UInt8) (last : Int) (tb tbb ta1 ta2 ta3 ta4 : Tok) (S : Addr) (oS : Obj) : Cb w mean mg mb 410 22 news (KBw.bInts B = octF ws ls ∧ ((S,oS) ∈ news) ∧ oS.IsDictOf (PySem.strKind Challenge.rw_nm0011_01.row.prog w) [(Str.ofString "end",.int last ta1),(Str.ofString "b",.int base ta2),(Str.ofString "a",.int base ta3),(Str.ofString "no",.int (base + 2) ta4)] ∧ (S == sysModules) = false ∧ last = Int.fmod (base + 4 * (((lrowsF ws ls base).length : Int) - 1)) (2 ^ Int.toNat 32))
    [.bytes B tb,.int base tbb,.ref S] (fun t=>.str (textF (dueUpTo (lrowsF ws ls base) (lrowsF ws ls base).length)) t) := by
  intro dp un gd cn cs a ccd cl outer A₀ base' h₀ L m s Q E B' F X N T hk ⟨hB,hm,hd,hl,he⟩ hd' hu hR
  obtain ⟨hli,hok⟩ := lst_lines d
  have hlen := (lines_due d).2.2.1
  have hlen1 := (lines_due d).2.2.2.1
  have hb4 := d.b4
  have hb0 := d.b0
  have hb1 := d.b1
  have he' : last = (base + 4 * (((lrowsF ws ls base).length : Int) - 1)) % 4294967296 := by rw [he,Int.fmod_eq_emod_of_nonneg _ (by decide)];rfl
  have q := c_sym (w := w) (mean := mean) (mg := mg) (mb := mb) (news := news) B tb (octF ws ls) base last (base + 2) tbb ta1 ta2 ta3 ta4 S oS dp un gd cn cs a ccd cl outer A₀ base' h₀ L m s Q E B' F X N T hk ⟨hB,oct_len d,drawn_in d,⟨hb0,hb1⟩,hok,hm,hd,hl,by omega,by omega⟩ hd' hu
  by_cases hn : (lrowsF ws ls base).length = 1
  · have e : last = base := by rw [he',hn];omega
    rw [hli,e,symT_eq,sym_due1 d hn] at q
    exact q hR
  · have e : last ≠ base := by omega
    rw [hli,symT_ne e,he',sym_due2 d hn] at q
    exact q hR
theorem bj_ws {prog : Program} {A : Around} {E : Value → Shared → Prop} {s : Shared} {D : Addr} {ys : List Value} {t : Tok} {Q : Value → Shared → Prop} (hl : s.heap.IsList D ys.toArray) (hlen : ys.length = ws.length)
    (hy : ∀ (i : Nat) (y : Value),ys[i]? = some y → ∃ b t,y = .bytes b t ∧ KBw.bInts b = KTBy.little 4 (ws.getD i 0)) (h1 : 1 ≤ ws.length) (h4 : ws.length ≤ 4)
    (h : ∀ b t' k,KBw.bInts b = (ws.map (KTBy.little 4)).flatten → Q (.bytes b t') { s with toks := k }) : wpAny (model prog w) A (call (.builtin "bytes.join") [.bytes #[] t,.ref D]) Q E s := by
  have key : ∀ (ys : List Value) (ws : List Int),ys.length = ws.length → (∀ (i : Nat) (y : Value),ys[i]? = some y → ∃ b t,y = .bytes b t ∧ KBw.bInts b = KTBy.little 4 (ws.getD i 0)) →
      ∃ bs,BytesAre ys bs ∧ bs.map KBw.bInts = ws.map (KTBy.little 4) := by
    intro ys
    induction ys with
    | nil=>intro ws e _;cases ws with | nil=>exact ⟨[],.nil,rfl⟩ | cons x r=>cases e
    | cons y r ih =>
      intro ws e hy
      cases ws with
      | nil=>cases e
      | cons x q =>
        obtain ⟨b,t,rfl,hb⟩ := hy 0 y rfl
        obtain ⟨bs,h1,h2⟩ := ih q (by simpa using e) fun i z hz=>by simpa using hy (i + 1) z (by simpa using hz)
        exact ⟨b :: bs,.cons b t h1,by rw [List.map_cons,List.map_cons,h2,hb];rfl⟩
  obtain ⟨bs,hbs,hm⟩ := key ys ws hlen hy
  have hbl : bs.length = ws.length := by have := congrArg List.length hm;simpa using this
  have hsz : ∀ b ∈ bs,b.size = 4 := fun b hb=>by
    have : KBw.bInts b ∈ ws.map (KTBy.little 4) := hm ▸ List.mem_map_of_mem hb
    obtain ⟨x,_,e⟩ := List.mem_map.mp this
    rw [← KBw.ints_length,← e,KTBy.little_length]
  have hj : ∀ (l : List (Array UInt8)),KBw.bInts (Builtin.Bytes.joined #[] l) = (l.map KBw.bInts).flatten := by
    intro l
    unfold Builtin.Bytes.joined
    have g : ∀ (l : List (Array UInt8)) (n : Nat) (acc : Array UInt8),KBw.bInts ((l.zipIdx n).foldl (fun out (p,i)=>(if i > 0 then out ++ #[] else out) ++ p) acc) = KBw.bInts acc ++ (l.map KBw.bInts).flatten := by
      intro l
      induction l with
      | nil=>intro n acc;simp
      | cons x r ih =>
        intro n acc
        rw [List.zipIdx_cons,List.foldl_cons,ih]
        have e : (if n > 0 then acc ++ #[] else acc) = acc := by split <;> simp
        show KBw.bInts ((if n > 0 then acc ++ #[] else acc) ++ x) ++ _ = _
        rw [e,KBw.ints_app rfl rfl,List.map_cons,List.flatten_cons,List.append_assoc]
    have := g l 0 #[]
    rw [this];rfl
  have hflat : (ws.map (KTBy.little 4)).flatten.length = 4 * ws.length := by
    have : ∀ l : List Int,(l.map (KTBy.little 4)).flatten.length = 4 * l.length := fun l=>by
      induction l with
      | nil=>rfl
      | cons x r ih=>rw [List.map_cons,List.flatten_cons,List.length_append,ih,KTBy.little_length,List.length_cons];omega
    exact this ws
  have hfold : ∀ (l : List (Array UInt8)) (n : Nat),(∀ b ∈ l,b.size = 4) → l.foldl (fun n b=>n + b.size) n = n + 4 * l.length := by
    intro l
    induction l with
    | nil=>intro n _;rfl
    | cons x r ih=>intro n hx;rw [List.foldl_cons,ih _ (fun b hb=>hx b (.tail _ hb)),hx x (.head _),List.length_cons];omega
  refine bj hl hbs (fun e=>by rw [e] at hbl;simp at hbl;omega) ?_ ?_ ?_
  · rw [List.foldl_toArray,hfold bs 0 hsz];omega
  · rw [← KBw.ints_length,hj,hm,hflat];omega
  · intro b t' k e
    exact h b t' k (by rw [e,hj,hm])
noncomputable def dueJ (m₀ : Str → Option Value) (X : List (Addr × Obj)) (rows : List Str) (k : Nat) (m : Str → Option Value) (n : List (Addr × Obj)) : Prop :=
  ∃ o D ds c,m = (fun y=>if y = Str.ofString "due" then some (Value.ref D) else if y = Str.ofString "k" then o else m₀ y) ∧ n = (D,listOf (List.toArray ds) c) :: X ∧ StrsAre ds (dueUpTo rows k)
theorem dueJ.opI {m₀ : Str → Option Value} {X : List (Addr × Obj)} {rows : List Str} {k : Nat} {m : Str → Option Value} {n : List (Addr × Obj)} {P : Prop} {h9 g9 : Heap} {L9 : Addr} {I9 : Addr} {oI9 : Obj} (H : dueJ m₀ X rows k m n) (F9 : Fr h9 L9 g9 m) (N9 : News h9 L9 g9 ((I9,oI9) :: n)) (off9 : ∀ p ∈ n,p.1 ≠ I9) (kk9 : ∀ o D ds c,(StrsAre ds (dueUpTo rows k)) → Fr h9 L9 g9 ((fun y=>if y = Str.ofString "due" then some (Value.ref D) else if y = Str.ofString "k" then o else m₀ y)) → News h9 L9 g9 ((I9,oI9) :: (D,listOf (List.toArray ds) c) :: X) → (∀ p ∈ ((D,listOf (List.toArray ds) c) :: X),p.1 ≠ I9) → P) : P := by
  obtain ⟨o,D,ds,c,em,en,r1⟩ := H
  subst em
  subst en
  exact kk9 o D ds c r1 F9 N9 off9
theorem dueJ.opZ {m₀ : Str → Option Value} {X : List (Addr × Obj)} {rows : List Str} {k : Nat} {m : Str → Option Value} {n : List (Addr × Obj)} {P : Prop} {h9 g9 : Heap} {L9 : Addr} (H : dueJ m₀ X rows k m n) (F9 : Fr h9 L9 g9 m) (N9 : News h9 L9 g9 (n)) (kk9 : ∀ o D ds c,(StrsAre ds (dueUpTo rows k)) → Fr h9 L9 g9 ((fun y=>if y = Str.ofString "due" then some (Value.ref D) else if y = Str.ofString "k" then o else m₀ y)) → News h9 L9 g9 ((D,listOf (List.toArray ds) c) :: X) → P) : P := by
  obtain ⟨o,D,ds,c,em,en,r1⟩ := H
  subst em
  subst en
  exact kk9 o D ds c r1 F9 N9
theorem due_start {m₀ : Str → Option Value} {X : List (Addr × Obj)} {rows : List Str} {D : Addr} {c : Nat} (hm : m₀ (Str.ofString "due") = some (.ref D)) : dueJ m₀ X rows 0 m₀ ((D,listOf (List.toArray []) c) :: X) :=
  ⟨m₀ (Str.ofString "k"),D,[],c,funext fun y=>by
    by_cases h : y = Str.ofString "due"
    · rw [if_pos h,h,hm]
    · rw [if_neg h]
      by_cases h : y = Str.ofString "k"
      · rw [if_pos h,h]
      · rw [if_neg h],rfl,.nil⟩
end
section
variable {prog : Program} {w : World} {A : Around} {E : Value → Shared → Prop} {s : Shared} {h₀ : Heap} {L : Addr} {m : Str → Option Value} {news : List (Addr × Obj)}
theorem bj_method {b : Array UInt8} {t : Tok} {pl : Sem Bool} {Q : Value × List Value → Shared → Prop} (h : Q (.builtin "bytes.join",[.bytes b t]) s) :
    wpAny (model prog w) A (getMethod (.bytes b t) (PySem.Str.ofString "join") pl) Q E s :=
  getMethod_value (T := "bytes") (name := PySem.Str.ofString "join") (ga := "bytes.__getattribute__") (id := "bytes.join") (typeIs_bytes s b t) (by intro _ x;cases x) bj_ga bj_canon bj_noga bj_slot.lookup bj_type h
theorem same_ne {x : Str} {t u : Tok} {Q : Value → Shared → Prop} (h : Q (.bool false) s) : wpAny (model prog w) A (compareOp .NotEq (.str x t) (.str x u)) Q E s := PyProof.Rows.ne_str (by rw [bne_self_eq_false];exact h)
theorem same_eq {x : Str} {t u : Tok} {Q : Value → Shared → Prop} (h : Q (.bool true) s) : wpAny (model prog w) A (compareOp .Eq (.str x t) (.str x u)) Q E s := PyProof.Rows.eq_str (by rw [beq_self_eq_true];exact h)
theorem strs_map (f : Int → Str) : ∀ {ys : List Value} {ws : List Int},ys.length = ws.length → (∀ i,i < ws.length → ∃ y,ys[i]? = some y ∧ ∃ t,y = .str (f (ws.getD i 0)) t) → StrsAre ys (ws.map f) := by
  intro ys ws
  induction ws generalizing ys with
  | nil=>intro h _;rw [List.length_eq_zero_iff.mp h];exact .nil
  | cons v ws ih =>
    intro h hy
    cases ys with
    | nil=>cases h
    | cons y ys =>
    obtain ⟨y',e,t,rfl⟩ := hy 0 (Nat.zero_lt_succ _)
    cases e
    exact .cons _ t (ih (by simpa using h) fun i hi=>by simpa using hy (i + 1) (Nat.succ_lt_succ hi))
theorem strs_app {vs us : List Value} {a b : List Str} (h1 : StrsAre vs a) (h2 : StrsAre us b) : StrsAre (vs ++ us) (a ++ b) := h1.append' h2
theorem add_mine {X Y : Addr} {ox oy : Obj} {vs us : List Value} {cx cy : Nat} {Q : Value → Shared → Prop} (F : Fr h₀ L s.heap m) (N : News h₀ L s.heap news) (hx : (X,ox) ∈ news) (hy : (Y,oy) ∈ news) (ex : ox = listOf (List.toArray vs) cx) (ey : oy = listOf (List.toArray us) cy) (hz : vs.length + us.length ≤ 1000)
    (h : ∀ D h',(∀ p ∈ news,p.1 < D) → Fr h₀ L h' m → News h₀ L h' ((D,listOf (List.toArray (vs ++ us)) 0) :: news) → Q (.ref D) { s with heap := h' }) : wpAny (model prog w) A (binaryOp .Add (.ref X) (.ref Y)) Q E s :=
  by
  subst ex ey
  exact add_lists (hsz := by rw [sizeLine_eq];omega) F N (News.isList N hx) (News.isList N hy) fun h' F' N'=>h s.heap.objs.size h' (fun p hp=>Heap.lt_size (N p hp).1) F' N'
noncomputable def ListP (h₀ : Heap) (L : Addr) (m : Str → Option Value) (news : List (Addr × Obj)) (xs : List Str) (s : Shared) (v : Value) (s' : Shared) : Prop :=
  ∃ X vs c h tk,v = .ref X ∧ StrsAre vs xs ∧ Fr h₀ L h m ∧ News h₀ L h ((X,listOf (List.toArray vs) c) :: news) ∧ s' = { s with heap := h,toks := tk }
theorem list_cut (xs : List Str) {e : Expr} {env : Env} {Q : Value → Shared → Prop} (_F : Fr h₀ L s.heap m) (_N : News h₀ L s.heap news) (h1 : wpAny (model prog w) A (eval e env) (ListP h₀ L m news xs s) E s)
    (h2 : ∀ X vs c h tk,StrsAre vs xs → Fr h₀ L h m → News h₀ L h ((X,listOf (List.toArray vs) c) :: news) → Q (.ref X) { s with heap := h,toks := tk }) : wpAny (model prog w) A (eval e env) Q E s :=
  wpAny_mono h1 (fun v s' h=>by obtain ⟨X,vs,c,h',tk,rfl,hs,F',N',rfl⟩ := h;exact h2 X vs c h' tk hs F' N') fun _ _ e=>e
theorem due_next {m₀ : Str → Option Value} {X : List (Addr × Obj)} {rows : List Str} {D D' : Addr} {c k : Nat} {o u : Option Value} {ds va vb : List Value} {t : Tok} {xa xb : List Str}
    (hs : StrsAre ds (dueUpTo rows k)) (ha : StrsAre va xa) (hb : StrsAre vb xb) (ea : xa = if (k : Int) = 0 then [Str.ofString "a:",Str.ofString "b:"] else []) (eb : xb = if (k : Int) = (rows.length : Int) - 1 then [Str.ofString "end:"] else []) :
    dueJ m₀ X rows (k + 1) (fun y=>if y = Str.ofString "due" then some (.ref D') else if y = Str.ofString "k" then u else if y = Str.ofString "due" then some (.ref D) else if y = Str.ofString "k" then o else m₀ y)
      ((D',listOf (List.toArray (ds ++ va ++ vb ++ [.str (rows.getD k (Str.ofString "")) t])) c) :: X) :=
  ⟨u,D',_,_,funext fun y=>by by_cases h1 : y = Str.ofString "due" <;> by_cases h2 : y = Str.ofString "k" <;> simp [h1,h2],rfl,by
    subst ea;subst eb
    exact strs_snocK (strs_app (strs_app hs ha) hb)⟩
theorem due_b {rows : List Str} (hr : rows.length ≤ 10 ∧ ∀ y ∈ rows,y.length ≤ 150) : ∀ k : Nat,(∀ y ∈ dueUpTo rows k,y.length ≤ 200) ∧ (dueUpTo rows k).length ≤ 4 * k := by
  intro k
  induction k with
  | zero=>exact ⟨fun y hy=>(by cases hy),Nat.le_refl _⟩
  | succ k ih =>
    obtain ⟨h1,h2⟩ := ih
    have ha : ∀ y ∈ (if (k : Int) = 0 then [Str.ofString "a:",Str.ofString "b:"] else []),y.length ≤ 200 := by
      intro y hy
      split at hy
      · simp only [List.mem_cons,List.not_mem_nil,or_false] at hy
        rcases hy with rfl | rfl <;> decide
      · cases hy
    have hb : ∀ y ∈ (if (k : Int) = (rows.length : Int) - 1 then [Str.ofString "end:"] else []),y.length ≤ 200 := by
      intro y hy
      split at hy
      · simp only [List.mem_cons,List.not_mem_nil,or_false] at hy
        rcases hy with rfl;decide
      · cases hy
    refine ⟨fun y hy=>?_,?_⟩
    · unfold dueUpTo at hy
      rcases List.mem_append.mp hy with hy | hy
      · rcases List.mem_append.mp hy with hy | hy
        · rcases List.mem_append.mp hy with hy | hy
          · exact h1 y hy
          · exact ha y hy
        · exact hb y hy
      · rw [List.mem_singleton.mp hy];have := getD_le hr.2 k;omega
    · unfold dueUpTo
      rw [List.length_append,List.length_append,List.length_append,List.length_singleton]
      have q1 : (if (k : Int) = 0 then [Str.ofString "a:",Str.ofString "b:"] else []).length ≤ 2 := by split <;> simp
      have q2 : (if (k : Int) = (rows.length : Int) - 1 then [Str.ofString "end:"] else []).length ≤ 1 := by split <;> simp
      omega
end
theorem src_l1 {ws ls : List Int} {vs us : List Value} {t : Tok} (h : StrsAre vs ([Str.ofString "    .text"] ++ ws.map fun v=>Str.ofString "    " ++ disF v)) (iu : IntsAre us ls) (h2 : ¬ us = []) : StrsAre (vs ++ [.str (Str.ofString "    .byte " ++ figT ls) t]) (lsrcF ws ls) := by
  unfold lsrcF
  have h3 : ¬ ls = [] := by intro q;subst q;cases iu;exact h2 rfl
  rw [if_neg h3]
  exact strs_snocK h
theorem src_l2 {ws ls : List Int} {vs us : List Value} (h : StrsAre vs ([Str.ofString "    .text"] ++ ws.map fun v=>Str.ofString "    " ++ disF v)) (iu : IntsAre us ls) (h2 : us = []) : StrsAre vs (lsrcF ws ls) := by
  unfold lsrcF
  have h3 : ls = [] := by subst h2;cases iu;rfl
  rw [if_pos h3,List.append_nil]
  exact h
theorem lsrc_b {ws ls : List Int} {base : Int} (d : Drawn ws ls base) : (∀ y ∈ lsrcF ws ls,y.length ≤ 200) ∧ (lsrcF ws ls).length ≤ 200 := by
  have hf := d.few
  have p1 := fig_len (getD_in d.octets) d.left
  have e1 : (Str.ofString "    ").length = 4 := rfl
  have e2 : (Str.ofString "    .byte ").length = 10 := rfl
  unfold lsrcF
  refine ⟨fun y hy=>?_,?_⟩
  · rcases List.mem_append.mp hy with hy | hy
    · rcases List.mem_cons.mp hy with rfl | hy
      · decide
      · obtain ⟨v,hv,rfl⟩ := List.mem_map.mp hy
        have := disF_len v (d.words v hv)
        rw [PySem.Str.length_append];omega
    · split at hy
      · cases hy
      · rw [List.mem_singleton.mp hy,PySem.Str.length_append];omega
  · rw [List.length_append,List.length_cons,List.length_map]
    split <;> simp <;> omega
section
variable {prog : Program} {w : World} {A : Around} {E : Value → Shared → Prop} {s : Shared} {h₀ : Heap} {L : Addr} {m : Str → Option Value} {news : List (Addr × Obj)}
theorem len_strs {X : Addr} {vs : List Value} {c : Nat} {l : List Str} {Q : Value → Shared → Prop} (N : News h₀ L s.heap news) (hm : (X,listOf (List.toArray vs) c) ∈ news) (hs : StrsAre vs l) (hz : l.length ≤ 1000)
    (h : ∀ t tk,Q (.int (l.length : Int) t) { s with toks := tk }) : wpAny (model prog w) A (call (.builtin "len") [.ref X]) Q E s :=
  PySem.Calls.call_len_list (News.isList N hm) (by rw [List.size_toArray,sa_len hs];omega) (by rw [List.size_toArray,sa_len hs];exact h _ _)
theorem str_item {value slice : PySem.Expr} {X : Addr} {vs : List Value} {c k : Nat} {u : Tok} {l : List Str} {Q : Value → Shared → Prop} (N : News h₀ L s.heap news) (hm : (X,listOf (List.toArray vs) c) ∈ news) (hs : StrsAre vs l) (hk : k < l.length) (hz : l.length ≤ 1000)
    (h : ∀ t,Q (.str (l.getD k (Str.ofString "")) t) s)
    (hs' : subscripted slice false (.ref X) (.int (k : Int) u) = operate [.ref X,.int (k : Int) u] (getItem (.ref X) (.int (k : Int) u)) := by with_unfolding_all rfl) :
    wpAny (model prog w) A (subscriptTail value slice (.ref X) (.int (k : Int) u)) Q E s := by
  have hl := News.isList N hm
  have hx : ∃ v,vs[k]? = some v := ⟨_,List.getElem?_eq_getElem (by rw [sa_len hs];exact hk)⟩
  obtain ⟨v,hv⟩ := hx
  obtain ⟨t,rfl,_⟩ := str_at hs k v hv
  exact PyProof.Rows.tail_any hl.typeIs slot_list_getitem.lookup (wpAny_getItem_list hl (by omega) (by omega) (by rw [List.getElem?_toArray];exact hv) (h t)) hs'
noncomputable def SrcP (h₀ : Heap) (L : Addr) (m : Str → Option Value) (S : Addr) (Y : Addr × Obj) (news : List (Addr × Obj)) (l : List Str) (s : Shared) (f : Flow) (s' : Shared) : Prop :=
  f = .next ∧ ∃ vs c h tk,StrsAre vs l ∧ Fr h₀ L h m ∧ News h₀ L h ((S,listOf (List.toArray vs) c) :: Y :: news) ∧ s' = { s with heap := h,toks := tk }
theorem src_cut {st : Stmt} {env : Env} {Q : Flow → Shared → Prop} (S : Addr) (Y : Addr × Obj) (news : List (Addr × Obj)) (l : List Str) (_F : Fr h₀ L s.heap m) (h1 : wpAny (model prog w) A (exec st env) (SrcP h₀ L m S Y news l s) E s)
    (h2 : ∀ vs c h tk,StrsAre vs l → Fr h₀ L h m → News h₀ L h ((S,listOf (List.toArray vs) c) :: Y :: news) → Q .next { s with heap := h,toks := tk }) : wpAny (model prog w) A (exec st env) Q E s :=
  wpAny_mono h1 (fun f s' h=>by obtain ⟨rfl,vs,c,h',tk,hs,F',N',rfl⟩ := h;exact h2 vs c h' tk hs F' N') fun _ _ e=>e
end
end
section
noncomputable abbrev wellO (N : Addr) (a st : Int) (ta ts : Tok) (k : Nat) : Obj := listOf #[.ref N,.int a ta,.int st ts] k
noncomputable abbrev DrawK (W N : Addr) (k : Nat) (rest : List (Addr × Obj)) (lo hi : Int) (h₀ : Heap) (L : Addr) (m : Str → Option Value) (s : Shared) (Q : Value → Shared → Prop) : Prop :=
  ∀ (v a st : Int) (ta ts t : Tok) (h' : Heap) (tk' : Nat),lo ≤ v ∧ v < hi → 0 ≤ a → Fr h₀ L h' m → News h₀ L h' ((W,wellO N a st ta ts k) :: rest) → Q (.int v t) { s with heap := h',toks := tk' }
section
variable {prog : Program} {w : World} {A : Around} {E : Value → Shared → Prop} {s : Shared} {h₀ : Heap} {L W N : Addr} {m : Str → Option Value} {rest : List (Addr × Obj)} {a st x : Int} {ta ts t u : Tok} {k : Nat} {Q : Unit → Shared → Prop}
theorem set_w1 (F : Fr h₀ L s.heap m) (N' : News h₀ L s.heap ((W,wellO N a st ta ts k) :: rest)) (hne : ∀ p ∈ rest,@Ne Nat p.1 W) (h : ∀ h',Fr h₀ L h' m → News h₀ L h' ((W,wellO N x st u ts k) :: rest) → Q () { s with heap := h' }) :
    wpAny (model prog w) A (setItem (.ref W) (.int 1 t) (.int x u)) Q E s := ki_set F N' (by decide) (by decide) rfl (Upd.head hne) h
theorem set_w2 (F : Fr h₀ L s.heap m) (N' : News h₀ L s.heap ((W,wellO N a st ta ts k) :: rest)) (hne : ∀ p ∈ rest,@Ne Nat p.1 W) (h : ∀ h',Fr h₀ L h' m → News h₀ L h' ((W,wellO N a x ta u k) :: rest) → Q () { s with heap := h' }) :
    wpAny (model prog w) A (setItem (.ref W) (.int 2 t) (.int x u)) Q E s := ki_set F N' (by decide) (by decide) rfl (Upd.head hne) h
end
theorem news_tail {h₀ : Heap} {L : Addr} {h : Heap} {x y : Addr × Obj} {r : List (Addr × Obj)} (N : News h₀ L h (x :: y :: r)) : News h₀ L h (y :: r) := fun p hp=>N p (.tail _ hp)
theorem fmod_rng {x n : Int} (h : 0 < n) : 0 ≤ Int.fmod x n ∧ Int.fmod x n < n := by
  rw [Int.fmod_eq_emod_of_nonneg _ (Int.le_of_lt h)]
  exact ⟨Int.emod_nonneg _ (by omega),Int.emod_lt_of_pos _ h⟩
end
section
open PyProof.Rows.LCg PySem.Calls
theorem c_draw {w : World} {mean : ExcName → Option Value} {mg mb : Str → Option Value} (W N : Addr) (k : Nat) (rest : List (Addr × Obj)) (a st size : Int) (ta ts tz : Tok) (vs : List Value) (nums : List Int) (kn : Nat) :
    CbK w mean mg mb 423 6 ((W,wellO N a st ta ts k) :: rest) ((∀ p ∈ rest,@Ne Nat p.1 W) ∧ ((N,listOf (List.toArray vs) kn) ∈ rest) ∧ IntsAre vs nums ∧ nums.length ≤ 30 ∧ 0 ≤ a ∧ 0 < size) [.ref W,.int size tz] (DrawK W N k rest 0 size) := by
  dsimp only [CbK]
  k_fill
  intros
  rename_i hpre _ _ hret
  k_with_none
  have hne := hpre.1
  have hmN := hpre.2.1
  have ia := hpre.2.2.1
  have hnl := hpre.2.2.2.1
  have ha := hpre.2.2.2.2.1
  have hsz := hpre.2.2.2.2.2
  clear hpre
  k_with "call builtin:len cons nil" => (k_dflt (refine' call_len_list (items := List.toArray vs) ?kl ?kf ?_;(case kl=>exact News.isList (by k_asm) (.tail _ hmN));(case kf=>(rw [List.size_toArray,IntsAre.length ia];omega))))
  k_with "subscriptTail Name Name ref int" => (k_dflt (refine' item_anyK (vs := vs) (l := N) ?kl ia ha ?kj ?kf ?_;(case kl=>exact News.isList (by k_asm) (.tail _ hmN));(case kj=>(rw [← IntsAre.length ia];(try simp only [List.size_toArray] at *);omega));(case kf=>(have := IntsAre.length ia;(try simp only [List.size_toArray] at *);omega)));intro t9)
  k_with "setItem ref int int" => (first | ((with_reducible show wpAny _ _ (setItem (Value.ref _) (Value.int 1 _) _) _ _ _);k_dflt (refine' set_w1 ?kF ?kN hne ?_;(case kF=>k_asm);(case kN=>k_asm))) | ((with_reducible show wpAny _ _ (setItem (Value.ref _) (Value.int 2 _) _) _ _ _);k_dflt (refine' set_w2 ?kF ?kN hne ?_;(case kF=>k_asm);(case kN=>k_asm))));intro h9 F9 N9
  refine wpAny_call ?_
  k_dflt cell_enter
  (try (rename Fr _ _ _ _=>Fm9;replace Fm9 : Fr _ _ _ (fun y=>List.lookup y [(Str.ofString "size",.int size tz),(Str.ofString "well",.ref W)]) := Fm9))
  k_steps
  all_goals (first | (refine' hret _ _ _ _ _ _ _ _ ?e1 ?e2 ?e3 ?e4;(case e3=>k_asm);(case e4=>k_asm);(case e1=>exact fmod_rng hsz);(case e2=>omega)))
end
section
theorem grp_hi : ∀ n : Nat,[55,23,111,103,99,3,35,19,51,15,115,-1].getD n (0 : Int) < 128
  | 0 | 1 | 2 | 3 | 4 | 5 | 6 | 7 | 8 | 9 | 10 | 11=>by decide
  | _ + 12=>(by decide : (0 : Int) < 128)
theorem gd_32 (b : Int) (hb : 0 ≤ b ∧ b ≤ 1) : ∀ n : Nat,0 ≤ [0,b,32].getD n (0 : Int) ∧ [0,b,32].getD n (0 : Int) ≤ 32
  | 0=>⟨Int.le_refl _,(by decide : (0 : Int) ≤ 32)⟩
  | 1=>⟨hb.1,Int.le_trans hb.2 (by decide)⟩
  | 2=>⟨(by decide : (0 : Int) ≤ 32),Int.le_refl _⟩
  | _ + 3=>⟨Int.le_refl _,(by decide : (0 : Int) ≤ 32)⟩
theorem word_1 {x b : Int} (hb : 0 ≤ b ∧ b ≤ 1) {n : Nat} : 0 ≤ Int.fmod x (2 ^ Int.toNat 25) + [0,b,32].getD n (0 : Int) * 2 ^ Int.toNat 25 ∧ Int.fmod x (2 ^ Int.toNat 25) + [0,b,32].getD n (0 : Int) * 2 ^ Int.toNat 25 < 2 ^ 32 := by
  have h1 := fmod_rng (x := x) (n := 33554432) (by decide)
  have h2 := gd_32 b hb n
  show 0 ≤ Int.fmod x 33554432 + [0,b,32].getD n (0 : Int) * 33554432 ∧ Int.fmod x 33554432 + [0,b,32].getD n (0 : Int) * 33554432 < 4294967296
  omega
theorem word_2 {x : Int} (h : 0 ≤ x ∧ x < 2 ^ 32) : 0 ≤ x - Int.fmod (Int.fdiv x 4096) 8 * 4096 ∧ x - Int.fmod (Int.fdiv x 4096) 8 * 4096 < 2 ^ 32 := by
  rw [Int.fmod_eq_emod_of_nonneg _ (by decide),Int.fdiv_eq_ediv_of_nonneg _ (by decide)];omega
theorem word_3 {x : Int} : 0 ≤ 15 + Int.fmod x 256 * 2 ^ Int.toNat 20 ∧ 15 + Int.fmod x 256 * 2 ^ Int.toNat 20 < 2 ^ 32 := by
  have h1 := fmod_rng (x := x) (n := 256) (by decide)
  show 0 ≤ 15 + Int.fmod x 256 * 1048576 ∧ 15 + Int.fmod x 256 * 1048576 < 4294967296
  omega
theorem word_4 {x : Int} (h : 0 ≤ x ∧ x < 2 ^ 32) : ∀ n : Nat,0 ≤ [115,115,115 + 2 ^ Int.toNat 20,x].getD n (0 : Int) ∧ [115,115,115 + 2 ^ Int.toNat 20,x].getD n (0 : Int) < 2 ^ 32
  | 0 | 1=>(by decide : (0 : Int) ≤ 115 ∧ (115 : Int) < 2 ^ 32)
  | 2=>(by decide : (0 : Int) ≤ 115 + (2 : Int) ^ Int.toNat 20 ∧ 115 + (2 : Int) ^ Int.toNat 20 < 2 ^ 32)
  | 3=>h
  | _ + 4=>(by decide : (0 : Int) ≤ 0 ∧ (0 : Int) < 2 ^ 32)
theorem word_5 {a b g : Int} (ha : 0 ≤ a ∧ a < 65536) (hb : 0 ≤ b ∧ b < 65536) (h : ¬ g < 0) (hg : g < 128) : 0 ≤ Int.fdiv (a * 65536 + b) 128 * 128 + g ∧ Int.fdiv (a * 65536 + b) 128 * 128 + g < 2 ^ 32 := by
  rw [Int.fdiv_eq_ediv_of_nonneg _ (by decide)];omega
end
section
open PyProof.Rows.LCg PySem.Calls
theorem word_D {a b g : Int} (ha : 0 ≤ a ∧ a < 65536) (hb : 0 ≤ b ∧ b < 65536) (hg : g < 128) : 0 ≤ (bif decide (g < 0) then a * 65536 + b else Int.fdiv (a * 65536 + b) 128 * 128 + g) ∧ (bif decide (g < 0) then a * 65536 + b else Int.fdiv (a * 65536 + b) 128 * 128 + g) < 2 ^ 32 := by
  by_cases h : g < 0
  · rw [decide_eq_true h];show 0 ≤ a * 65536 + b ∧ a * 65536 + b < 2 ^ 32;omega
  · rw [decide_eq_false h];exact word_5 ha hb h hg
theorem c_word {w : World} {mean : ExcName → Option Value} {mg mb : Str → Option Value} (W N : Addr) (k : Nat) (rest : List (Addr × Obj)) (a st : Int) (ta ts : Tok) (vs : List Value) (nums : List Int) (kn : Nat) :
    CbK w mean mg mb 430 10 ((W,wellO N a st ta ts k) :: rest) ((∀ p ∈ rest,@Ne Nat p.1 W) ∧ ((N,listOf (List.toArray vs) kn) ∈ rest) ∧ IntsAre vs nums ∧ nums.length ≤ 30 ∧ 0 ≤ a) [.ref W] (DrawK W N k rest 0 (2 ^ 32)) := by
  dsimp only [CbK]
  k_fill
  intros
  rename_i hpre _ _ hret
  k_with_none
  have hne := hpre.1
  have hmN := hpre.2.1
  have ia := hpre.2.2.1
  have hnl := hpre.2.2.2.1
  have ha := hpre.2.2.2.2
  clear hpre
  k_with "bn" => first
    | exact Bn.add
    | exact Bn.sub
    | (apply Bn.mulR;decide +kernel)
    | (apply Bn.div;decide +kernel)
    | (apply Bn.mod;decide +kernel)
    | (apply Bn.pow;decide +kernel)
    | (apply Bn.shr;decide +kernel)
    | exact Bn.and
  k_with "ev" => first
    | exact Ev.int
    | exact Ev.str
    | (apply Ev.loc;rfl;rfl)
    | (apply Ev.neg;k_extra "ev")
    | (apply Ev.bin;k_extra "ev";k_extra "ev";k_extra "bn")
  k_with "cm" => first
    | exact Cm.lt
    | exact Cm.le
    | exact Cm.eqI
    | exact Cm.eqS
    | exact Cm.neS
  k_with "te" => first
    | (apply Te.cmp;k_extra "ev";k_extra "ev";k_extra "cm";rfl)
    | (apply Te.and2;k_extra "te";(intro _;k_extra "te"))
    | (apply Te.and3;k_extra "te";(intro _;k_extra "te");(intro _ _;k_extra "te"))
  k_with "we" => first
    | exact We.nil
    | (apply We.cons;k_extra "ev";k_extra "we";exact fun _=>rfl)
  k_with "cm" => first
    | exact Cm.gt
    | exact Cm.ge
  k_with "ev" => first
    | (apply Ev.tupI;k_extra "we";(intro _;k_extra "ev");exact Nat.le_of_ble_eq_true rfl;(simp only [List.length_cons,List.length_nil];omega);exact fun _ _ _=>by with_unfolding_all rfl)
    | (apply Ev.ifI;k_extra "te";k_extra "ev";k_extra "ev")
  k_with "eval Call Name cons nil" => ((with_reducible show wpAny _ _ (PySem.eval (PySem.Expr.Call (PySem.Expr.Name (PySem.Str.ofString "_law_draw") _) _ _ _) _) _ _ _);refine Call_ ?_)
  k_with "call ref cons nil" => ((with_reducible show wpAny _ _ (PySem.call (Value.ref 423) _ _) _ _ _);k_dflt (first | refine' cbk_use (c_draw W N k rest _ _ _ _ _ _ vs nums kn) ?k1 ?k2 ?k3 ?k4 ?k5 ?kK ?kp ?kd ?ku ?_);(case k1=>k_asm);(case k2=>k_asm);(case k3=>k_asm);(case k4=>first | k_asm | exact news_tail (by assumption));(case k5=>k_asm);(case kK=>first | exact rfl | assumption);(case kp=>exact ⟨hne,hmN,ia,hnl,by assumption,by decide⟩);(case kd=>ktr_room);(case ku=>ktr_units);intro v9 a9 st9 ta9 ts9 t9 h9 tk9 r9 ha9 F9 N9;(try dsimp only);(try k_fold))
  k_with "execs cons" => ((with_reducible show wpAny _ _ (PySem.execs (PySem.Stmt.Assign [PySem.Expr.Name (Str.ofString "drawn") _] _ _ :: _) _) _ _ _);k_dflt (refine' ex_walkP (D := 0) (fun X=>0 ≤ X ∧ X < 2 ^ 32) ?h ?hl ?k1 ?k2 ?k3 ?k4 ?k5 ?kK ?kd ?ku ?_;(case k1=>k_asm);(case k2=>k_asm);(case k3=>k_asm);(case k4=>first | k_asm | exact news_tail (by assumption));(case k5=>k_asm);(case kK=>first | exact rfl | assumption);(case kd=>ktr_room);(case ku=>ktr_units);(case hl=>exact Locs.int (x := Str.ofString "way") rfl (Locs.int (x := Str.ofString "sum_now") rfl (Locs.int (x := Str.ofString "low") rfl (Locs.int (x := Str.ofString "high") rfl (Locs.int (x := Str.ofString "group") rfl (Locs.nil'))))));(case h=>(refine' Exx.asg ?za ?zb ?zc ?zd;(case za=>k_extra "ev");(case zc=>rfl);(case zd=>exact fun _ _=>rfl);(apply Exx.if_;k_extra "te";(intro hb9;simp only [Bool.and_eq_true,decide_eq_true_eq,beq_iff_eq] at hb9;(apply Exx.ret;k_extra "ev";(first | exact word_1 (by decide) | exact word_2 (word_D (by assumption) (by assumption) (grp_hi _)) | exact word_3 | exact word_4 (word_D (by assumption) (by assumption) (grp_hi _)) _ | exact word_D (by assumption) (by assumption) (grp_hi _)))));(apply Exx.if_;k_extra "te";(intro hb9;simp only [Bool.and_eq_true,decide_eq_true_eq,beq_iff_eq] at hb9;(apply Exx.ret;k_extra "ev";(first | exact word_1 (by decide) | exact word_2 (word_D (by assumption) (by assumption) (grp_hi _)) | exact word_3 | exact word_4 (word_D (by assumption) (by assumption) (grp_hi _)) _ | exact word_D (by assumption) (by assumption) (grp_hi _)))));(apply Exx.if_;k_extra "te";(intro hb9;simp only [Bool.and_eq_true,decide_eq_true_eq,beq_iff_eq] at hb9;(apply Exx.ret;k_extra "ev";(first | exact word_1 (by decide) | exact word_2 (word_D (by assumption) (by assumption) (grp_hi _)) | exact word_3 | exact word_4 (word_D (by assumption) (by assumption) (grp_hi _)) _ | exact word_D (by assumption) (by assumption) (grp_hi _)))));(apply Exx.if_;k_extra "te";(intro hb9;simp only [Bool.and_eq_true,decide_eq_true_eq,beq_iff_eq] at hb9;(apply Exx.ret;k_extra "ev";(first | exact word_1 (by decide) | exact word_2 (word_D (by assumption) (by assumption) (grp_hi _)) | exact word_3 | exact word_4 (word_D (by assumption) (by assumption) (grp_hi _)) _ | exact word_D (by assumption) (by assumption) (grp_hi _)))));(apply Exx.if_;k_extra "te";(intro hb9;simp only [Bool.and_eq_true,decide_eq_true_eq,beq_iff_eq] at hb9;(apply Exx.ret;k_extra "ev";(first | exact word_1 (by decide) | exact word_2 (word_D (by assumption) (by assumption) (grp_hi _)) | exact word_3 | exact word_4 (word_D (by assumption) (by assumption) (grp_hi _)) _ | exact word_D (by assumption) (by assumption) (grp_hi _)))));(apply Exx.ret;k_extra "ev";(first | exact word_1 (by decide) | exact word_2 (word_D (by assumption) (by assumption) (grp_hi _)) | exact word_3 | exact word_4 (word_D (by assumption) (by assumption) (grp_hi _)) _ | exact word_D (by assumption) (by assumption) (grp_hi _))))));intro x9 t9 h9 tk9 m9 w9 F9 N9;(try dsimp only);(try k_fold))
  refine wpAny_call ?_
  k_dflt cell_enter
  (try (rename Fr _ _ _ _=>Fm9;replace Fm9 : Fr _ _ _ (fun y=>List.lookup y [(Str.ofString "well",.ref W)]) := Fm9))
  k_steps
  all_goals (first | (refine' hret _ _ _ _ _ _ _ _ ?e1 ?e2 ?e3 ?e4;(case e3=>k_asm);(case e4=>first | k_asm | exact news_tail (by assumption));(case e1=>assumption);(case e2=>omega)))
end
section
open PyProof.Rows.LCg PySem.Calls
section
variable {prog : Program} {w : World} {A : Around} {E : Value → Shared → Prop} {s : Shared} {h₀ : Heap} {L : Addr} {m : Str → Option Value} {env : Env}
inductive TurnJ (h₀ : Heap) (L : Addr) (m : Str → Option Value) (s₁ : Shared) (I : Addr) (oI : Obj) (C : Addr) (oC : Obj) (D : Addr) (ys : List Value) (Jn : List Value → List (Addr × Obj) → Prop) (y : Value) (s₂ : Shared) : Prop
  | mk' (h' tk news' : _) (h0 : s₂ = { s₁ with heap := h',toks := tk }) (h1 : Fr h₀ L h' m) (h2 : News h₀ L h' ((I,oI) :: (C,oC) :: (D,lst ys) :: news')) (h3 : Off3 I C D news') (h4 : Jn (ys ++ [y]) news') : TurnJ h₀ L m s₁ I oI C oC D ys Jn y s₂
inductive SrcRngJ (prog : Program) (w : World) (A : Around) (h₀ : Heap) (L : Addr) (m : Str → Option Value) (env : Env) (elt : Expr) (x : Str) (scope : Scope) (cl : List (Str × Addr)) (y : Str) (Q : Flow → Shared → Prop) (xv : Value) (s₁ : Shared) : Prop
  | mk' (r : Addr) (a b : Int) (t u v : Tok) (n : Nat) (news : List (Addr × Obj)) (J : Nat → List Value → List (Addr × Obj) → Prop) (h0 : xv = .ref r) (h1 : A.handled = none) (h2 : Fr h₀ L s₁.heap m) (h3 : News h₀ L s₁.heap news) (h4 : IsRange s₁.heap r a b 1 t u v) (h5 : Builtin.Range.small a b 1 = true) (h6 : Builtin.Range.rangeSize a b 1 = ((n : Nat) : Int)) (h7 : n ≤ sizeLine) (h8 : J 0 [] news) (h9 : (∀ (i : Nat) (ys : List Value) (nw : List (Addr × Obj)) v I oI C oC D m₂ h tk (E' : Value → Shared → Prop),i < n → J i ys nw → (∃ t,v = .int (a + (i : Int)) t) → NsObj oC m₂ → m₂ x = some v → Fr h₀ L h m → News h₀ L h ((I,oI) :: (C,oC) :: (D,lst ys) :: nw) → Off3 I C D nw → ((@Ne Nat I C) ∧ (@Ne Nat I D) ∧ (@Ne Nat C D)) → wpAny (model prog w) A (eval elt (compEnvC scope cl C env)) (TurnJ h₀ L m { s₁ with heap := h,toks := tk } I oI C oC D ys (J (i + 1))) E' { s₁ with heap := h,toks := tk })) (h10 : (∀ (ys : List Value) (nw : List (Addr × Obj)) (D : Addr) (h : Heap) (tk : Nat),J n ys nw → Fr h₀ L h (fun z=>if z = y then some (.ref D) else m z) → News h₀ L h ((D,lst ys) :: nw) → Off1 D nw → Q .next { s₁ with heap := h,toks := tk })) : SrcRngJ prog w A h₀ L m env elt x scope cl y Q xv s₁
theorem rest_J {elt : Expr} {x : Str} {scope : Scope} {cl : List (Str × Addr)} {P : Nat → Value → Prop} {Fin : List Value → List (Addr × Obj) → Prop} {n : Nat} {J : Nat → List Value → List (Addr × Obj) → Prop}
    (hel : ∀ (i : Nat) (ys : List Value) (nw : List (Addr × Obj)) v I oI C oC D m₂ h tk (E' : Value → Shared → Prop),i < n → J i ys nw → P i v → NsObj oC m₂ → m₂ x = some v → Fr h₀ L h m → News h₀ L h ((I,oI) :: (C,oC) :: (D,lst ys) :: nw) → Off3 I C D nw → ((@Ne Nat I C) ∧ (@Ne Nat I D) ∧ (@Ne Nat C D)) →
      wpAny (model prog w) A (eval elt (compEnvC scope cl C env)) (TurnJ h₀ L m { s with heap := h,toks := tk } I oI C oC D ys (J (i + 1))) E' { s with heap := h,toks := tk })
    (hfin : ∀ ys nw,J n ys nw → Fin ys nw) :
    ∀ (k i : Nat) (ys : List Value) (nw : List (Addr × Obj)),i + k = n → J i ys nw → CompRest prog w A h₀ L m env elt x scope cl s (fun _=>True) P Fin k i ys nw := by
  intro k
  induction k with
  | zero=>exact fun i ys nw e hJ=>hfin ys nw ((show i = n by omega) ▸ hJ)
  | succ k ih =>
    exact fun i ys nw e hJ=>CompRest.succ fun v I oI C oC D m₂ h tk E' hv hC hx F N off ne =>
      wpAny_mono (hel i ys nw v I oI C oC D m₂ h tk E' (by omega) hJ hv hC hx F N off ne) (fun y s' hp=>by
        obtain ⟨h',tk',news',rfl,F',N',off',hj⟩ := hp
        exact ⟨h',tk',news',rfl,F',N',off',trivial,ih (i + 1) (ys ++ [y]) news' (by omega) hj⟩) fun _ _ e=>e
theorem comp_rangeJ {elt iter : Expr} {x y : Str} {px py : Pos} {scope : Scope} {cl : List (Str × Addr)} {pos spos : Pos} {Q : Flow → Shared → Prop} (F₀ : Fr h₀ L s.heap m) (hLe : env.locals = L)
    (hsw : swapsWith (.ListComp elt [⟨.Name x px,iter,[],0⟩] scope pos) (some (.Name y py)) spos.line env = pure true)
    (hclos : closureFor scope env = pure cl) (hcell : ∀ y ∈ scope.names,y.2 ≠ .cell) (hkind : scope.kind = .function)
    (hnames : ∀ y ∈ scope.names,y.2 = .local → scope.names.lookup y.1 = some .local) (hx : scope.names.lookup x = some .local)
    (hy : env.kindOf y = some .local) (hp : (env.scope.kind == .class || (env.scope.kind == .module && env.locals != env.globals)) = false)
    (h : wpAny (model prog w) A (eval iter env) (SrcRngJ prog w A h₀ L m env elt x scope cl y Q) E s)
    (hs : ∀ x,foldedSetIterable iter env x = pure x := by intro _;rfl) :
    wpAny (model prog w) A (exec (.Assign [.Name y py] (.ListComp elt [⟨.Name x px,iter,[],0⟩] scope pos) spos) env) Q E s := by
  refine Assign_ListComp_U F₀ hLe hsw hclos hcell hkind hnames hx hy hp (wpAny_mono h (fun xv s₁ h₁=>?_) fun _ _ e=>e) hs
  obtain ⟨r,a,b,t,u,v,n,news,J,rfl,hh,F,N,hr,hsm,hn,hsz,h0,hel,hq⟩ := h₁
  refine CompSrc.range hh F N hr hsm hn hsz fun g=>?_
  exact rest_J (s := { s₁ with heap := g }) hel (fun ys nw hj D h tk F' N' o1=>hq ys nw D h tk hj F' N' o1) n 0 [] news (by omega) h0
end
end
section
theorem news_swap {h₀ : Heap} {L : Addr} {h : Heap} {x y : Addr × Obj} {r : List (Addr × Obj)} (N : News h₀ L h (x :: y :: r)) : News h₀ L h (y :: x :: r) := fun p hp=>N p (by
  rcases List.mem_cons.mp hp with rfl | hp
  · exact .tail _ (.head _)
  · rcases List.mem_cons.mp hp with rfl | hp
    · exact .head _
    · exact .tail _ (.tail _ hp))
theorem ints_snocK {k : Int} {t : Tok} {vs : List Value} {ws : List Int} (h : IntsAre vs ws) : IntsAre (vs ++ [.int k t]) (ws ++ [k]) := h.append (.cons k t .nil)
theorem off_head {a I : Addr} {o o' : Obj} {n : List (Addr × Obj)} (h : ∀ p ∈ (a,o) :: n,p.1 ≠ I) : ∀ p ∈ (a,o') :: n,p.1 ≠ I := by
  intro p hp
  rcases List.mem_cons.mp hp with rfl | hp
  · exact h (a,o) (.head _)
  · exact h p (.tail _ hp)
noncomputable def lawJ1 (m₀ : Str → Option Value) (W N Dr : Addr) (kw : Nat) (rest : List (Addr × Obj)) (i : Nat) (m : Str → Option Value) (n : List (Addr × Obj)) : Prop :=
  ∃ o ws vs c a st ta ts,m = (fun y=>if y = Str.ofString "turn" then o else m₀ y) ∧ n = (W,wellO N a st ta ts kw) :: (Dr,listOf (List.toArray vs) c) :: rest ∧ IntsAre vs ws ∧ ws.length = i + 1 ∧ (∀ v ∈ ws,0 ≤ v ∧ v < 2 ^ 32) ∧ 0 ≤ a
theorem lawJ1.opI {m₀ : Str → Option Value} {W N Dr : Addr} {kw : Nat} {rest : List (Addr × Obj)} {i : Nat} {m : Str → Option Value} {n : List (Addr × Obj)} {P : Prop} {h9 g9 : Heap} {L9 : Addr} {I9 : Addr} {oI9 : Obj} (H : lawJ1 m₀ W N Dr kw rest i m n) (F9 : Fr h9 L9 g9 m) (N9 : News h9 L9 g9 ((I9,oI9) :: n)) (off9 : ∀ p ∈ n,p.1 ≠ I9) (kk9 : ∀ o ws vs c a st ta ts,(IntsAre vs ws) → (ws.length = i + 1) → ((∀ v ∈ ws,0 ≤ v ∧ v < 2 ^ 32)) → (0 ≤ a) → Fr h9 L9 g9 ((fun y=>if y = Str.ofString "turn" then o else m₀ y)) → News h9 L9 g9 ((I9,oI9) :: (W,wellO N a st ta ts kw) :: (Dr,listOf (List.toArray vs) c) :: rest) → (∀ p ∈ ((W,wellO N a st ta ts kw) :: (Dr,listOf (List.toArray vs) c) :: rest),p.1 ≠ I9) → P) : P := by
  obtain ⟨o,ws,vs,c,a,st,ta,ts,em,en,r1,r2,r3,r4⟩ := H
  subst em
  subst en
  exact kk9 o ws vs c a st ta ts r1 r2 r3 r4 F9 N9 off9
theorem lawJ1.opZ {m₀ : Str → Option Value} {W N Dr : Addr} {kw : Nat} {rest : List (Addr × Obj)} {i : Nat} {m : Str → Option Value} {n : List (Addr × Obj)} {P : Prop} {h9 g9 : Heap} {L9 : Addr} (H : lawJ1 m₀ W N Dr kw rest i m n) (F9 : Fr h9 L9 g9 m) (N9 : News h9 L9 g9 (n)) (kk9 : ∀ o ws vs c a st ta ts,(IntsAre vs ws) → (ws.length = i + 1) → ((∀ v ∈ ws,0 ≤ v ∧ v < 2 ^ 32)) → (0 ≤ a) → Fr h9 L9 g9 ((fun y=>if y = Str.ofString "turn" then o else m₀ y)) → News h9 L9 g9 ((W,wellO N a st ta ts kw) :: (Dr,listOf (List.toArray vs) c) :: rest) → P) : P := by
  obtain ⟨o,ws,vs,c,a,st,ta,ts,em,en,r1,r2,r3,r4⟩ := H
  subst em
  subst en
  exact kk9 o ws vs c a st ta ts r1 r2 r3 r4 F9 N9
theorem law1_start {m₀ : Str → Option Value} {W N Dr : Addr} {kw c : Nat} {rest : List (Addr × Obj)} {v a st : Int} {t ta ts : Tok} (hv : 0 ≤ v ∧ v < 2 ^ 32) (ha : 0 ≤ a) :
    lawJ1 m₀ W N Dr kw rest 0 m₀ ((W,wellO N a st ta ts kw) :: (Dr,listOf (List.toArray [.int v t]) c) :: rest) :=
  ⟨m₀ (Str.ofString "turn"),[v],_,c,a,st,ta,ts,funext fun y=>by
    by_cases h : y = Str.ofString "turn"
    · rw [if_pos h,h]
    · rw [if_neg h],rfl,.cons v t .nil,rfl,fun x hx=>by rw [List.mem_singleton.mp hx];exact hv,ha⟩
theorem law1_next {m₀ : Str → Option Value} {W N Dr : Addr} {kw c i : Nat} {rest : List (Addr × Obj)} {v a st : Int} {t ta ts : Tok} {o u : Option Value} {vs : List Value} {ws : List Int} (hs : IntsAre vs ws) (hl : ws.length = i + 1) (hw : ∀ v ∈ ws,0 ≤ v ∧ v < 2 ^ 32) (hv : 0 ≤ v ∧ v < 2 ^ 32) (ha : 0 ≤ a) :
    lawJ1 m₀ W N Dr kw rest (i + 1) (fun y=>if y = Str.ofString "turn" then u else if y = Str.ofString "turn" then o else m₀ y) ((W,wellO N a st ta ts kw) :: (Dr,listOf (List.toArray (vs ++ [.int v t])) c) :: rest) :=
  ⟨u,ws ++ [v],_,c,a,st,ta,ts,funext fun y=>by by_cases h : y = Str.ofString "turn" <;> simp [h],rfl,ints_snocK hs,by rw [List.length_append,List.length_singleton,hl],fun x hx=>by
    rcases List.mem_append.mp hx with hx | hx
    · exact hw x hx
    · rw [List.mem_singleton.mp hx];exact hv,ha⟩
noncomputable def lawJ2 (W N : Addr) (kw : Nat) (rest : List (Addr × Obj)) (i : Nat) (ys : List Value) (n : List (Addr × Obj)) : Prop :=
  ∃ zs a st ta ts,n = (W,wellO N a st ta ts kw) :: rest ∧ IntsAre ys zs ∧ zs.length = i ∧ (∀ v ∈ zs,0 ≤ v ∧ v < 256) ∧ 0 ≤ a
theorem lawJ2.opJ3 {W N : Addr} {kw : Nat} {rest : List (Addr × Obj)} {i : Nat} {ys : List Value} {n : List (Addr × Obj)} {P : Prop} {h9 g9 : Heap} {L9 : Addr} {I9 C9 D9 : Addr} {oI9 oC9 : Obj} (H : lawJ2 W N kw rest i ys n) (N9 : News h9 L9 g9 ((I9,oI9) :: (C9,oC9) :: (D9,PyProof.Rows.LCg.lst ys) :: n)) (off9 : PyProof.Rows.LCg.Off3 I9 C9 D9 (n)) (kk9 : ∀ zs a st ta ts,(IntsAre ys zs) → (zs.length = i) → ((∀ v ∈ zs,0 ≤ v ∧ v < 256)) → (0 ≤ a) → News h9 L9 g9 ((I9,oI9) :: (C9,oC9) :: (D9,PyProof.Rows.LCg.lst ys) :: (W,wellO N a st ta ts kw) :: rest) → (PyProof.Rows.LCg.Off3 I9 C9 D9 (((W,wellO N a st ta ts kw) :: rest))) → P) : P := by
  obtain ⟨zs,a,st,ta,ts,en,r1,r2,r3,r4⟩ := H
  subst en
  exact kk9 zs a st ta ts r1 r2 r3 r4 N9 off9
theorem lawJ2.opJ1 {W N : Addr} {kw : Nat} {rest : List (Addr × Obj)} {i : Nat} {ys : List Value} {n : List (Addr × Obj)} {P : Prop} {h9 g9 : Heap} {L9 : Addr} {D9 : Addr} (H : lawJ2 W N kw rest i ys n) (N9 : News h9 L9 g9 ((D9,PyProof.Rows.LCg.lst ys) :: n)) (off9 : PyProof.Rows.LCg.Off1 D9 (n)) (kk9 : ∀ zs a st ta ts,(IntsAre ys zs) → (zs.length = i) → ((∀ v ∈ zs,0 ≤ v ∧ v < 256)) → (0 ≤ a) → News h9 L9 g9 ((D9,PyProof.Rows.LCg.lst ys) :: (W,wellO N a st ta ts kw) :: rest) → (PyProof.Rows.LCg.Off1 D9 (((W,wellO N a st ta ts kw) :: rest))) → P) : P := by
  obtain ⟨zs,a,st,ta,ts,en,r1,r2,r3,r4⟩ := H
  subst en
  exact kk9 zs a st ta ts r1 r2 r3 r4 N9 off9
theorem law2_start {W N : Addr} {kw : Nat} {rest : List (Addr × Obj)} {a st : Int} {ta ts : Tok} (ha : 0 ≤ a) : lawJ2 W N kw rest 0 [] ((W,wellO N a st ta ts kw) :: rest) :=
  ⟨[],a,st,ta,ts,rfl,.nil,rfl,fun _ h=>(nomatch h),ha⟩
theorem law2_next {W N : Addr} {kw i : Nat} {rest : List (Addr × Obj)} {ys : List Value} {zs : List Int} {v a st : Int} {t ta ts : Tok} (hs : IntsAre ys zs) (hl : zs.length = i) (hz : ∀ v ∈ zs,0 ≤ v ∧ v < 256) (hv : 0 ≤ v ∧ v < 256) (ha : 0 ≤ a) :
    lawJ2 W N kw rest (i + 1) (ys ++ [.int v t]) ((W,wellO N a st ta ts kw) :: rest) :=
  ⟨zs ++ [v],a,st,ta,ts,rfl,ints_snocK hs,by rw [List.length_append,List.length_singleton,hl],fun x hx=>by
    rcases List.mem_append.mp hx with hx | hx
    · exact hz x hx
    · rw [List.mem_singleton.mp hx];exact hv,ha⟩
theorem news_w4 {h₀ : Heap} {L : Addr} {h : Heap} {a b c x : Addr × Obj} {r : List (Addr × Obj)} (N : News h₀ L h (a :: b :: c :: x :: r)) : News h₀ L h (x :: a :: b :: c :: r) := fun p hp=>N p (by
  simp only [List.mem_cons] at hp ⊢
  rcases hp with h | h | h | h | h <;> simp [h])
theorem news_4w {h₀ : Heap} {L : Addr} {h : Heap} {a b c x : Addr × Obj} {r : List (Addr × Obj)} (N : News h₀ L h (x :: a :: b :: c :: r)) : News h₀ L h (a :: b :: c :: x :: r) := fun p hp=>N p (by
  simp only [List.mem_cons] at hp ⊢
  rcases hp with h | h | h | h | h <;> simp [h])
theorem off3_head {I C D : Addr} {p q : Addr × Obj} {r : List (Addr × Obj)} (e : q.1 = p.1) (h : PyProof.Rows.LCg.Off3 I C D (p :: r)) : PyProof.Rows.LCg.Off3 I C D (q :: r) := by
  unfold PyProof.Rows.LCg.Off3 at h ⊢
  rw [e];exact h
noncomputable def lawJ3 (m₀ : Str → Option Value) (news : List (Addr × Obj)) (_i : Nat) (m : Str → Option Value) (n : List (Addr × Obj)) : Prop :=
  ∃ o1 o2,m = (fun y=>if y = Str.ofString "said" then o1 else if y = Str.ofString "sum_now" then o2 else m₀ y) ∧ n = news
theorem lawJ3.opI {m₀ : Str → Option Value} {news : List (Addr × Obj)} {_i : Nat} {m : Str → Option Value} {n : List (Addr × Obj)} {P : Prop} {h9 g9 : Heap} {L9 : Addr} {I9 : Addr} {oI9 : Obj} (H : lawJ3 m₀ news _i m n) (F9 : Fr h9 L9 g9 m) (N9 : News h9 L9 g9 ((I9,oI9) :: n)) (off9 : ∀ p ∈ n,p.1 ≠ I9) (kk9 : ∀ o1 o2,Fr h9 L9 g9 ((fun y=>if y = Str.ofString "said" then o1 else if y = Str.ofString "sum_now" then o2 else m₀ y)) → News h9 L9 g9 ((I9,oI9) :: news) → (∀ p ∈ (news),p.1 ≠ I9) → P) : P := by
  obtain ⟨o1,o2,em,en⟩ := H
  subst em
  subst en
  exact kk9 o1 o2  F9 N9 off9
theorem lawJ3.opZ {m₀ : Str → Option Value} {news : List (Addr × Obj)} {_i : Nat} {m : Str → Option Value} {n : List (Addr × Obj)} {P : Prop} {h9 g9 : Heap} {L9 : Addr} (H : lawJ3 m₀ news _i m n) (F9 : Fr h9 L9 g9 m) (N9 : News h9 L9 g9 (n)) (kk9 : ∀ o1 o2,Fr h9 L9 g9 ((fun y=>if y = Str.ofString "said" then o1 else if y = Str.ofString "sum_now" then o2 else m₀ y)) → News h9 L9 g9 (news) → P) : P := by
  obtain ⟨o1,o2,em,en⟩ := H
  subst em
  subst en
  exact kk9 o1 o2  F9 N9
theorem law3_start {m₀ : Str → Option Value} {news : List (Addr × Obj)} : lawJ3 m₀ news 0 m₀ news :=
  ⟨m₀ (Str.ofString "said"),m₀ (Str.ofString "sum_now"),funext fun y=>by
    by_cases h : y = Str.ofString "said"
    · rw [if_pos h,h]
    · rw [if_neg h]
      by_cases h : y = Str.ofString "sum_now"
      · rw [if_pos h,h]
      · rw [if_neg h],rfl⟩
theorem law3_next {m₀ : Str → Option Value} {news : List (Addr × Obj)} {i : Nat} {o1 o2 u1 u2 : Option Value} :
    lawJ3 m₀ news (i + 1) (fun y=>if y = Str.ofString "said" then u1 else if y = Str.ofString "sum_now" then u2 else if y = Str.ofString "said" then o1 else if y = Str.ofString "sum_now" then o2 else m₀ y) news :=
  ⟨u1,u2,funext fun y=>by by_cases h : y = Str.ofString "said" <;> by_cases h2 : y = Str.ofString "sum_now" <;> simp [h,h2],rfl⟩
theorem rng_size (v : Int) (h : 0 ≤ v) : Builtin.Range.rangeSize 0 v 1 = ((v.toNat : Nat) : Int) := by
  rw [rangeSize_one];split <;> omega
theorem law_base {v : Int} (h : 0 ≤ v ∧ v < 65536) : ∀ n : Nat,0 ≤ [4096,4 * v,2 ^ Int.toNat 32 - 8].getD n (0 : Int) ∧ [4096,4 * v,2 ^ Int.toNat 32 - 8].getD n (0 : Int) < 2 ^ 32 ∧ [4096,4 * v,2 ^ Int.toNat 32 - 8].getD n (0 : Int) % 4 = 0
  | 0=>(by decide : (0 : Int) ≤ 4096 ∧ (4096 : Int) < 2 ^ 32 ∧ (4096 : Int) % 4 = 0)
  | 1=>(by omega : 0 ≤ 4 * v ∧ 4 * v < 2 ^ 32 ∧ 4 * v % 4 = 0)
  | 2=>(by decide : (0 : Int) ≤ 2 ^ Int.toNat 32 - 8 ∧ ((2 : Int) ^ Int.toNat 32 - 8) < 2 ^ 32 ∧ ((2 : Int) ^ Int.toNat 32 - 8) % 4 = 0)
  | _ + 3=>(by decide : (0 : Int) ≤ 0 ∧ (0 : Int) < 2 ^ 32 ∧ (0 : Int) % 4 = 0)
section
variable {prog : Program} {w : World} {A : Around} {E : Value → Shared → Prop} {s : Shared}
theorem ne_selfI {v : Int} {t u : Tok} {Q : Value → Shared → Prop} (h : Q (.bool false) s) : wpAny (model prog w) A (compareOp .NotEq (.int v t) (.int v u)) Q E s := PyProof.Rows.ne_int (by rw [bne_self_eq_false];exact h)
theorem eq_starts {v : Int} (hv : 0 ≤ v ∧ v < 2 ^ 32) {b : Bool} (hb : b = (decide (0 + (Str.ofString ".word").length ≤ (disF v).length) && PySem.Builtin.Str.subAt (disF v) (Str.ofString ".word") 0)) {Q : Value → Shared → Prop} (h : Q (.bool false) s) : wpAny (model prog w) A (compareOp .Eq (.bool b) (.bool (oneF v))) Q E s := by
  subst hb
  refine PyProof.Rows.eq_bool ?_
  rw [starts_eq v hv]
  cases oneF v <;> exact h
end
theorem drawn_of {vs zs : List Value} {ws ls : List Int} {k n : Nat} {x v : Int} (hl : ws.length = k + 1) (hk : k < 4) (hw : ∀ v ∈ ws,0 ≤ v ∧ v < 2 ^ 32) (hz : ls.length = n) (hn : n < 4) (ho : ∀ v ∈ ls,0 ≤ v ∧ v < 256) (hx : 0 ≤ x ∧ x < 65536) : Drawn ws ls ([4096,4 * x,2 ^ Int.toNat 32 - 8].getD v.toNat (0 : Int)) :=
  ⟨by omega,by omega,hw,by omega,ho,(law_base hx _).1,(law_base hx _).2.1,(law_base hx _).2.2⟩
end
section
noncomputable def KSc (_ : Scope) : Prop := True
@[reducible] noncomputable def sureSc {n : Str} {a : Arguments} {b : List Stmt} {ds : List Expr} {rt : Option Expr} {tp : List TypeParam} {sc : Scope} {ts : Option Scope} {bi : Str} {po : Pos} (i : Nat) (_ : stAt i = some (.FunctionDef n a b ds rt tp sc ts bi po)) : Prop := KSc sc
@[reducible] noncomputable def useSc (sc : Scope) (_ : KSc sc) : Scope := sc
@[reducible] noncomputable def sc56 : Scope := useSc _ (by show sureSc 56 rfl;trivial)
end
section
open PyProof.Rows.LCg PySem.Calls
theorem cw_bin {M : Model} {A : Around} {E : Value → Shared → Prop} {s : Shared} {env : Env} {pos : Pos} {id : String} {fs : List Value} {a b : Expr} {o : Operator} {p : Pos} {Q : Value → Shared → Prop} (h : wpAny M A (spliced (backTo pos (starEach [.BinOp a o b p] env))) (fun vs s₁=>wpAny M A (call (.builtin id) (fs ++ vs)) Q E s₁) E s) : wpAny M A (callWith pos (.builtin id) fs (backTo pos (starEach [.BinOp a o b p] env)) []) Q E s := callWith_method1 h rfl rfl
theorem c_right {w : World} {mean : ExcName → Option Value} {mg mb : Str → Option Value} {news : List (Addr × Obj)} (D Lr : Addr) (vs us : List Value) (k1 k2 : Nat) (ws ls : List Int) (base : Int) (tbb : Tok) :
    Cb w mean mg mb 502 26 news (((D,listOf (List.toArray vs) k1) ∈ news) ∧ ((Lr,listOf (List.toArray us) k2) ∈ news) ∧ IntsAre vs ws ∧ IntsAre us ls ∧ Drawn ws ls base) [.ref D,.ref Lr,.int base tbb] (fun t=>.bool true) := by
  dsimp only [Cb]
  k_fill
  intros
  rename_i hpre _ _ hret
  k_with_none
  have hmD := hpre.1
  have hmL := hpre.2.1
  have ia := hpre.2.2.1
  have iu := hpre.2.2.2.1
  have hd := hpre.2.2.2.2
  clear hpre
  have hul := IntsAre.length iu
  have hvl := IntsAre.length ia
  have hw4 := hd.few
  have hw1 := hd.some
  have hl3 := hd.left
  obtain ⟨ld1,ld2,ld3,ld4,ld5⟩ := lines_due hd
  have p3 : (Str.ofString "\n").length = 1 := rfl
  have p2 : (Str.ofString "    ").length = 4 := rfl
  have p5 : (Str.ofString "    .byte ").length = 10 := rfl
  have hL2 := getD_in hd.octets
  have p1 := fig_len hL2 hl3
  k_with "callWith builtin:list.append cons nil" => refine cw_bin ?_
  k_with "pow" => ((with_reducible refine pow_int_small ?kb1 ?kb2 ?kb3 ?_);(case kb1=>decide);(case kb2=>decide);(case kb3=>decide))
  k_with "getMethod bytes" => (k_dflt (refine bj_method ?_))
  k_with "comp" => first | ((with_reducible show wpAny _ _ (PySem.eval (PySem.Expr.ListComp (PySem.Expr.Call (PySem.Expr.Attribute _ _ _) _ _ _) [⟨_,_,[],_⟩] _ _) _) _ _ _);k_dflt (refine' comp_list (R := fun i y=>∃ b t,y = Value.bytes b t ∧ KBw.bInts b = KTBy.little 4 (ws.getD i 0)) ?k1 ?k2 ?k3 ?k4 ?k5 ?k6 ?_;(case k1=>k_asm);(case k2=>with_unfolding_all rfl);(case k3=>decide);(case k4=>rfl);(case k5=>decide);(case k6=>rfl))) | ((with_reducible show wpAny _ _ (PySem.eval (PySem.Expr.ListComp (PySem.Expr.BinOp _ _ _ _) [⟨_,_,[],_⟩] _ _) _) _ _ _);k_dflt (refine' comp_list (R := fun i y=>∃ t,y = Value.str (Str.ofString "    " ++ disF (ws.getD i 0)) t) ?k1 ?k2 ?k3 ?k4 ?k5 ?k6 ?_;(case k1=>k_asm);(case k2=>with_unfolding_all rfl);(case k3=>decide);(case k4=>rfl);(case k5=>decide);(case k6=>rfl))) | ((with_reducible show wpAny _ _ (PySem.eval (PySem.Expr.ListComp (PySem.Expr.Call (PySem.Expr.Name _ _) _ _ _) [⟨_,_,[],_⟩] _ _) _) _ _ _);k_dflt (refine' comp_list (R := fun i y=>∃ t,y = Value.str (Str.ofString (toString (ls.getD i 0))) t) ?k1 ?k2 ?k3 ?k4 ?k5 ?k6 ?_;(case k1=>k_asm);(case k2=>with_unfolding_all rfl);(case k3=>decide);(case k4=>rfl);(case k5=>decide);(case k6=>rfl)))
  k_with "SrcLst" => first | (k_dflt (refine' SrcLst.mk' _ vs _ _ rfl rfl ?k1 ?k2 ?k3 ?k4 ?kel1 ?kq1;(case k1=>k_asm);(case k2=>k_asm);(case k3=>(first | assumption | exact List.mem_cons_of_mem _ (by assumption) | exact List.mem_cons_of_mem _ (List.mem_cons_of_mem _ (by assumption)) | exact List.mem_cons_of_mem _ (List.mem_cons_of_mem _ (List.mem_cons_of_mem _ (by assumption))) | exact List.mem_cons_of_mem _ (List.mem_cons_of_mem _ (List.mem_cons_of_mem _ (List.mem_cons_of_mem _ (by assumption)))) | exact List.mem_cons_of_mem _ (List.mem_cons_of_mem _ (List.mem_cons_of_mem _ (List.mem_cons_of_mem _ (List.mem_cons_of_mem _ (by assumption))))) | exact List.mem_cons_of_mem _ (List.mem_cons_of_mem _ (List.mem_cons_of_mem _ (List.mem_cons_of_mem _ (List.mem_cons_of_mem _ (List.mem_cons_of_mem _ (by assumption)))))) | exact List.mem_cons_of_mem _ (List.mem_cons_of_mem _ (List.mem_cons_of_mem _ (List.mem_cons_of_mem _ (List.mem_cons_of_mem _ (List.mem_cons_of_mem _ (List.mem_cons_of_mem _ (by assumption))))))) | exact List.mem_cons_of_mem _ (List.mem_cons_of_mem _ (List.mem_cons_of_mem _ (List.mem_cons_of_mem _ (List.mem_cons_of_mem _ (List.mem_cons_of_mem _ (List.mem_cons_of_mem _ (List.mem_cons_of_mem _ (by assumption)))))))) | exact List.mem_cons_of_mem _ (List.mem_cons_of_mem _ (List.mem_cons_of_mem _ (List.mem_cons_of_mem _ (List.mem_cons_of_mem _ (List.mem_cons_of_mem _ (List.mem_cons_of_mem _ (List.mem_cons_of_mem _ (List.mem_cons_of_mem _ (by assumption))))))))) | exact List.mem_cons_of_mem _ (List.mem_cons_of_mem _ (List.mem_cons_of_mem _ (List.mem_cons_of_mem _ (List.mem_cons_of_mem _ (List.mem_cons_of_mem _ (List.mem_cons_of_mem _ (List.mem_cons_of_mem _ (List.mem_cons_of_mem _ (List.mem_cons_of_mem _ (by assumption))))))))))));(case k4=>(rw [sizeLine_eq];omega));(case' kel1=>(intro g9 i9 hi9 v9 I9 oI9 C9 oC9 D9 oD9 m9 h9 tk9 E9 hv9 hC9 hx9 F9 N9 off9 ne9;obtain ⟨t9,e9,g9⟩ := int_at ia i9 v9 hv9;subst e9;have r9 := hd.words _ (List.mem_of_getElem? g9);have q1 := disF_len _ r9;(try simp only [PyProof.Rows.LCg.Off3,and_true] at off9);(try dsimp only)));(case' kq1=>(intro ys9 D9 h9 tk9 hl9 hy9 F9 N9 o9;(try simp only [PyProof.Rows.LCg.Off1,and_true] at o9);(try dsimp only))))) | (k_dflt (refine' SrcLst.mk' _ vs _ _ rfl rfl ?k1 ?k2 ?k3 ?k4 ?kel2 ?kq2;(case k1=>k_asm);(case k2=>k_asm);(case k3=>(first | assumption | exact List.mem_cons_of_mem _ (by assumption) | exact List.mem_cons_of_mem _ (List.mem_cons_of_mem _ (by assumption)) | exact List.mem_cons_of_mem _ (List.mem_cons_of_mem _ (List.mem_cons_of_mem _ (by assumption))) | exact List.mem_cons_of_mem _ (List.mem_cons_of_mem _ (List.mem_cons_of_mem _ (List.mem_cons_of_mem _ (by assumption)))) | exact List.mem_cons_of_mem _ (List.mem_cons_of_mem _ (List.mem_cons_of_mem _ (List.mem_cons_of_mem _ (List.mem_cons_of_mem _ (by assumption))))) | exact List.mem_cons_of_mem _ (List.mem_cons_of_mem _ (List.mem_cons_of_mem _ (List.mem_cons_of_mem _ (List.mem_cons_of_mem _ (List.mem_cons_of_mem _ (by assumption)))))) | exact List.mem_cons_of_mem _ (List.mem_cons_of_mem _ (List.mem_cons_of_mem _ (List.mem_cons_of_mem _ (List.mem_cons_of_mem _ (List.mem_cons_of_mem _ (List.mem_cons_of_mem _ (by assumption))))))) | exact List.mem_cons_of_mem _ (List.mem_cons_of_mem _ (List.mem_cons_of_mem _ (List.mem_cons_of_mem _ (List.mem_cons_of_mem _ (List.mem_cons_of_mem _ (List.mem_cons_of_mem _ (List.mem_cons_of_mem _ (by assumption)))))))) | exact List.mem_cons_of_mem _ (List.mem_cons_of_mem _ (List.mem_cons_of_mem _ (List.mem_cons_of_mem _ (List.mem_cons_of_mem _ (List.mem_cons_of_mem _ (List.mem_cons_of_mem _ (List.mem_cons_of_mem _ (List.mem_cons_of_mem _ (by assumption))))))))) | exact List.mem_cons_of_mem _ (List.mem_cons_of_mem _ (List.mem_cons_of_mem _ (List.mem_cons_of_mem _ (List.mem_cons_of_mem _ (List.mem_cons_of_mem _ (List.mem_cons_of_mem _ (List.mem_cons_of_mem _ (List.mem_cons_of_mem _ (List.mem_cons_of_mem _ (by assumption))))))))))));(case k4=>(rw [sizeLine_eq];omega));(case' kel2=>(intro g9 i9 hi9 v9 I9 oI9 C9 oC9 D9 oD9 m9 h9 tk9 E9 hv9 hC9 hx9 F9 N9 off9 ne9;obtain ⟨t9,e9,g9⟩ := int_at ia i9 v9 hv9;subst e9;have r9 := hd.words _ (List.mem_of_getElem? g9);have q1 := disF_len _ r9;(try simp only [PyProof.Rows.LCg.Off3,and_true] at off9);(try dsimp only)));(case' kq2=>(intro ys9 D9 h9 tk9 hl9 hy9 F9 N9 o9;(try simp only [PyProof.Rows.LCg.Off1,and_true] at o9);(try dsimp only))))) | (k_dflt (refine' SrcLst.mk' _ us _ _ rfl rfl ?k1 ?k2 ?k3 ?k4 ?kel3 ?kq3;(case k1=>k_asm);(case k2=>k_asm);(case k3=>(first | assumption | exact List.mem_cons_of_mem _ (by assumption) | exact List.mem_cons_of_mem _ (List.mem_cons_of_mem _ (by assumption)) | exact List.mem_cons_of_mem _ (List.mem_cons_of_mem _ (List.mem_cons_of_mem _ (by assumption))) | exact List.mem_cons_of_mem _ (List.mem_cons_of_mem _ (List.mem_cons_of_mem _ (List.mem_cons_of_mem _ (by assumption)))) | exact List.mem_cons_of_mem _ (List.mem_cons_of_mem _ (List.mem_cons_of_mem _ (List.mem_cons_of_mem _ (List.mem_cons_of_mem _ (by assumption))))) | exact List.mem_cons_of_mem _ (List.mem_cons_of_mem _ (List.mem_cons_of_mem _ (List.mem_cons_of_mem _ (List.mem_cons_of_mem _ (List.mem_cons_of_mem _ (by assumption)))))) | exact List.mem_cons_of_mem _ (List.mem_cons_of_mem _ (List.mem_cons_of_mem _ (List.mem_cons_of_mem _ (List.mem_cons_of_mem _ (List.mem_cons_of_mem _ (List.mem_cons_of_mem _ (by assumption))))))) | exact List.mem_cons_of_mem _ (List.mem_cons_of_mem _ (List.mem_cons_of_mem _ (List.mem_cons_of_mem _ (List.mem_cons_of_mem _ (List.mem_cons_of_mem _ (List.mem_cons_of_mem _ (List.mem_cons_of_mem _ (by assumption)))))))) | exact List.mem_cons_of_mem _ (List.mem_cons_of_mem _ (List.mem_cons_of_mem _ (List.mem_cons_of_mem _ (List.mem_cons_of_mem _ (List.mem_cons_of_mem _ (List.mem_cons_of_mem _ (List.mem_cons_of_mem _ (List.mem_cons_of_mem _ (by assumption))))))))) | exact List.mem_cons_of_mem _ (List.mem_cons_of_mem _ (List.mem_cons_of_mem _ (List.mem_cons_of_mem _ (List.mem_cons_of_mem _ (List.mem_cons_of_mem _ (List.mem_cons_of_mem _ (List.mem_cons_of_mem _ (List.mem_cons_of_mem _ (List.mem_cons_of_mem _ (by assumption))))))))))));(case k4=>(rw [sizeLine_eq];omega));(case' kel3=>(intro g9 i9 hi9 v9 I9 oI9 C9 oC9 D9 oD9 m9 h9 tk9 E9 hv9 hC9 hx9 F9 N9 off9 ne9;obtain ⟨t9,e9,g9⟩ := int_at iu i9 v9 hv9;subst e9;have r9 := hd.octets _ (List.mem_of_getElem? g9);(try simp only [PyProof.Rows.LCg.Off3,and_true] at off9);(try dsimp only)));(case' kq3=>(intro ys9 D9 h9 tk9 hl9 hy9 F9 N9 o9;(try simp only [PyProof.Rows.LCg.Off1,and_true] at o9);(try dsimp only)))))
  k_with "eval Call Name cons nil" => ((with_reducible show wpAny _ _ (PySem.eval (PySem.Expr.Call (PySem.Expr.Name (PySem.Str.ofString "disassemble") _) _ _ _) _) _ _ _);refine Call_ ?_)
  k_with "call ref cons nil" => ((with_reducible show wpAny _ _ (PySem.call (Value.ref 372) _ _) _ _ _);k_dflt (first | refine' cb_use (c_dis _ _) ?k1 ?k2 ?k3 ?k4 ?k5 ?kK ?kp ?kd ?ku ?_);(case k1 | k2 | k3 | k4 | k5=>k_asm);(case kK=>first | exact rfl | assumption);(case kp=>exact r9);(case kd=>ktr_room);(case ku=>ktr_units);intro t9 h9 tk9 F9 N9;(try dsimp only);(try k_fold))
  k_with "elt" => first | exact ⟨_,_,rfl,by (rename KBw.bInts _ = _=>q9;exact q9)⟩ | exact ⟨_,rfl⟩
  k_with "call builtin:bytes.join cons nil" => (k_dflt (refine' bj_ws (ws := ws) (ys := ys9) ?k1 ?k2 ?k3 hw1 hw4 ?_;(case k1=>exact News.isList (by k_asm) (by k_mem));(case k2=>exact hl9.trans hvl);(case k3=>(intro i9 y9 hq9;obtain ⟨z9,e9,r9⟩ := hy9 i9 (by rw [← hl9];exact (List.getElem?_eq_some_iff.mp hq9).1);rw [hq9] at e9;cases e9;exact r9)));intro b9 t9 k9 hb9)
  k_with "call type:bytes cons nil" => (k_dflt (refine' KBa.make_K (ns := ls) (vs := us) ?k1 ?k2 rfl ?k3 iu hd.octets ?k4 ?_;(case k1=>k_asm);(case k2=>k_asm);(case k3=>exact News.isList (by k_asm) (by (first | assumption | exact List.mem_cons_of_mem _ (by assumption) | exact List.mem_cons_of_mem _ (List.mem_cons_of_mem _ (by assumption)) | exact List.mem_cons_of_mem _ (List.mem_cons_of_mem _ (List.mem_cons_of_mem _ (by assumption))) | exact List.mem_cons_of_mem _ (List.mem_cons_of_mem _ (List.mem_cons_of_mem _ (List.mem_cons_of_mem _ (by assumption)))) | exact List.mem_cons_of_mem _ (List.mem_cons_of_mem _ (List.mem_cons_of_mem _ (List.mem_cons_of_mem _ (List.mem_cons_of_mem _ (by assumption))))) | exact List.mem_cons_of_mem _ (List.mem_cons_of_mem _ (List.mem_cons_of_mem _ (List.mem_cons_of_mem _ (List.mem_cons_of_mem _ (List.mem_cons_of_mem _ (by assumption)))))) | exact List.mem_cons_of_mem _ (List.mem_cons_of_mem _ (List.mem_cons_of_mem _ (List.mem_cons_of_mem _ (List.mem_cons_of_mem _ (List.mem_cons_of_mem _ (List.mem_cons_of_mem _ (by assumption))))))) | exact List.mem_cons_of_mem _ (List.mem_cons_of_mem _ (List.mem_cons_of_mem _ (List.mem_cons_of_mem _ (List.mem_cons_of_mem _ (List.mem_cons_of_mem _ (List.mem_cons_of_mem _ (List.mem_cons_of_mem _ (by assumption)))))))) | exact List.mem_cons_of_mem _ (List.mem_cons_of_mem _ (List.mem_cons_of_mem _ (List.mem_cons_of_mem _ (List.mem_cons_of_mem _ (List.mem_cons_of_mem _ (List.mem_cons_of_mem _ (List.mem_cons_of_mem _ (List.mem_cons_of_mem _ (by assumption))))))))) | exact List.mem_cons_of_mem _ (List.mem_cons_of_mem _ (List.mem_cons_of_mem _ (List.mem_cons_of_mem _ (List.mem_cons_of_mem _ (List.mem_cons_of_mem _ (List.mem_cons_of_mem _ (List.mem_cons_of_mem _ (List.mem_cons_of_mem _ (List.mem_cons_of_mem _ (by assumption)))))))))))));(case k4=>omega));intro h9 t9 k9 F9 N9 in9)
  k_with "binaryOp Add bytes bytes" => (k_dflt (refine' KBa.add_K (ks := (ws.map (KTBy.little 4)).flatten) (ls := ls) hb9 (KBa.ints_make in9) ?k1 ?_;(case k1=>(have q9 := oct_len hd;unfold octF at q9;rw [List.length_append] at q9;omega)));intro t9 k9 hB9)
  k_with "eval Call Name cons nil" => ((with_reducible show wpAny _ _ (PySem.eval (PySem.Expr.Call (PySem.Expr.Name (PySem.Str.ofString "_law_rows") _) _ _ _) _) _ _ _);refine Call_ ?_)
  k_with "call ref cons nil" => ((with_reducible show wpAny _ _ (PySem.call (Value.ref 497) _ _) _ _ _);k_dflt (first | refine' cbk_use (c_rows D Lr vs us k1 k2 ws ls base _) ?k1 ?k2 ?k3 ?k4 ?k5 ?kK ?kp ?kd ?ku ?_);(case k1 | k2 | k3 | k4 | k5=>k_asm);(case kK=>first | exact rfl | assumption);(case kp=>exact ⟨(by (first | assumption | exact List.mem_cons_of_mem _ (by assumption) | exact List.mem_cons_of_mem _ (List.mem_cons_of_mem _ (by assumption)) | exact List.mem_cons_of_mem _ (List.mem_cons_of_mem _ (List.mem_cons_of_mem _ (by assumption))) | exact List.mem_cons_of_mem _ (List.mem_cons_of_mem _ (List.mem_cons_of_mem _ (List.mem_cons_of_mem _ (by assumption)))) | exact List.mem_cons_of_mem _ (List.mem_cons_of_mem _ (List.mem_cons_of_mem _ (List.mem_cons_of_mem _ (List.mem_cons_of_mem _ (by assumption))))) | exact List.mem_cons_of_mem _ (List.mem_cons_of_mem _ (List.mem_cons_of_mem _ (List.mem_cons_of_mem _ (List.mem_cons_of_mem _ (List.mem_cons_of_mem _ (by assumption)))))) | exact List.mem_cons_of_mem _ (List.mem_cons_of_mem _ (List.mem_cons_of_mem _ (List.mem_cons_of_mem _ (List.mem_cons_of_mem _ (List.mem_cons_of_mem _ (List.mem_cons_of_mem _ (by assumption))))))) | exact List.mem_cons_of_mem _ (List.mem_cons_of_mem _ (List.mem_cons_of_mem _ (List.mem_cons_of_mem _ (List.mem_cons_of_mem _ (List.mem_cons_of_mem _ (List.mem_cons_of_mem _ (List.mem_cons_of_mem _ (by assumption)))))))) | exact List.mem_cons_of_mem _ (List.mem_cons_of_mem _ (List.mem_cons_of_mem _ (List.mem_cons_of_mem _ (List.mem_cons_of_mem _ (List.mem_cons_of_mem _ (List.mem_cons_of_mem _ (List.mem_cons_of_mem _ (List.mem_cons_of_mem _ (by assumption))))))))) | exact List.mem_cons_of_mem _ (List.mem_cons_of_mem _ (List.mem_cons_of_mem _ (List.mem_cons_of_mem _ (List.mem_cons_of_mem _ (List.mem_cons_of_mem _ (List.mem_cons_of_mem _ (List.mem_cons_of_mem _ (List.mem_cons_of_mem _ (List.mem_cons_of_mem _ (by assumption)))))))))))),(by (first | assumption | exact List.mem_cons_of_mem _ (by assumption) | exact List.mem_cons_of_mem _ (List.mem_cons_of_mem _ (by assumption)) | exact List.mem_cons_of_mem _ (List.mem_cons_of_mem _ (List.mem_cons_of_mem _ (by assumption))) | exact List.mem_cons_of_mem _ (List.mem_cons_of_mem _ (List.mem_cons_of_mem _ (List.mem_cons_of_mem _ (by assumption)))) | exact List.mem_cons_of_mem _ (List.mem_cons_of_mem _ (List.mem_cons_of_mem _ (List.mem_cons_of_mem _ (List.mem_cons_of_mem _ (by assumption))))) | exact List.mem_cons_of_mem _ (List.mem_cons_of_mem _ (List.mem_cons_of_mem _ (List.mem_cons_of_mem _ (List.mem_cons_of_mem _ (List.mem_cons_of_mem _ (by assumption)))))) | exact List.mem_cons_of_mem _ (List.mem_cons_of_mem _ (List.mem_cons_of_mem _ (List.mem_cons_of_mem _ (List.mem_cons_of_mem _ (List.mem_cons_of_mem _ (List.mem_cons_of_mem _ (by assumption))))))) | exact List.mem_cons_of_mem _ (List.mem_cons_of_mem _ (List.mem_cons_of_mem _ (List.mem_cons_of_mem _ (List.mem_cons_of_mem _ (List.mem_cons_of_mem _ (List.mem_cons_of_mem _ (List.mem_cons_of_mem _ (by assumption)))))))) | exact List.mem_cons_of_mem _ (List.mem_cons_of_mem _ (List.mem_cons_of_mem _ (List.mem_cons_of_mem _ (List.mem_cons_of_mem _ (List.mem_cons_of_mem _ (List.mem_cons_of_mem _ (List.mem_cons_of_mem _ (List.mem_cons_of_mem _ (by assumption))))))))) | exact List.mem_cons_of_mem _ (List.mem_cons_of_mem _ (List.mem_cons_of_mem _ (List.mem_cons_of_mem _ (List.mem_cons_of_mem _ (List.mem_cons_of_mem _ (List.mem_cons_of_mem _ (List.mem_cons_of_mem _ (List.mem_cons_of_mem _ (List.mem_cons_of_mem _ (by assumption)))))))))))),ia,iu,by omega,hl3,hd.words,hd.octets,hd.b0,hd.b1⟩);(case kd=>ktr_room);(case ku=>ktr_units);intro Y9 rv9 ky9 h9 tk9 sr9 F9 N9;(try dsimp only);(try k_fold))
  k_with "eval Call Name cons nil" => ((with_reducible show wpAny _ _ (PySem.eval (PySem.Expr.Call (PySem.Expr.Name (PySem.Str.ofString "listing") _) _ _ _) _) _ _ _);refine Call_ ?_)
  k_with "call ref cons nil" => ((with_reducible show wpAny _ _ (PySem.call (Value.ref 403) _ _) _ _ _);k_dflt (first | refine' cb_use (c_lstD hd _ _ _) ?k1 ?k2 ?k3 ?k4 ?k5 ?kK ?kp ?kd ?ku ?_);(case k1 | k2 | k3 | k4 | k5=>k_asm);(case kK=>first | exact rfl | assumption);(case kp=>exact hB9);(case kd=>ktr_room);(case ku=>ktr_units);intro t9 h9 tk9 F9 N9;(try dsimp only);(try k_fold))
  k_with "eval Call Name cons nil" => ((with_reducible show wpAny _ _ (PySem.eval (PySem.Expr.Call (PySem.Expr.Name (PySem.Str.ofString "source_of") _) _ _ _) _) _ _ _);refine Call_ ?_)
  k_with "call ref cons nil" => ((with_reducible show wpAny _ _ (PySem.call (Value.ref 396) _ _) _ _ _);k_dflt (first | refine' cb_use (c_srcD hd _ _) ?k1 ?k2 ?k3 ?k4 ?k5 ?kK ?kp ?kd ?ku ?_);(case k1 | k2 | k3 | k4 | k5=>k_asm);(case kK=>first | exact rfl | assumption);(case kp=>exact hB9);(case kd=>ktr_room);(case ku=>ktr_units);intro t9 h9 tk9 F9 N9;(try dsimp only);(try k_fold))
  k_with "execs cons" => ((with_reducible refine wpAny_execs_cons ?_);(try dsimp only))
  k_with "execs nil" => ((with_reducible refine wpAny_execs_nil ?_);(try dsimp only))
  k_with "compareOp NotEq str str" => (k_dflt (refine same_ne ?_))
  k_with "compareOp Eq str str" => (k_dflt (refine same_eq ?_))
  k_with "binaryOp Add ref ref" => (first | (k_dflt (refine' add_mine (vs := [_]) (us := ys9) (cx := _) (cy := _) ?k1 ?k2 ?k3 ?k4 ?ex ?ey ?k5 ?_;(case k1=>k_asm);(case k2=>k_asm);(case k3=>k_mem);(case k4=>k_mem);(case ex=>with_unfolding_all rfl);(case ey=>with_unfolding_all rfl);(case k5=>(rw [hl9];simp only [List.length_singleton];omega)));intro S9 h9 lS9 F9 N9;have lS8 := lS9;(try k_lt lS9);have ss9 := fun t=>strs_app (StrsAre.cons (Str.ofString "    .text") t .nil) (strs_map (fun v=>Str.ofString "    " ++ disF v) (hl9.trans hvl) (fun i hi=>hy9 i (by omega)));have lss9 : ∀ t,([Value.str (Str.ofString "    .text") t] ++ ys9).length ≤ 10 := fun t=>by (rw [sa_len (ss9 t),List.length_append,List.length_singleton,List.length_map];omega)) | (k_dflt (refine' add_mine ?k1 ?k2 ?k3 ?k4 ?ex ?ey ?k5 ?_;(case k1=>k_asm);(case k2=>k_asm);(case k3=>k_mem);(case k4=>k_mem);(case ex=>rfl);(case ey=>rfl);(case k5=>((try simp only [List.length_append,List.length_cons,List.length_nil]);omega)));intro S9 h9 lS9 F9 N9;(try k_lt lS9)))
  k_with "add" => (k_dflt (refine' add_strC ?k1 ?_;(case k1=>((try simp only [PySem.Str.length_append]);omega)));intro t9 k9)
  k_with "ne" => ((with_reducible show wpAny _ _ (compareOp CmpOp.NotEq (Value.ref _) (Value.ref _)) _ _ _);k_dflt (refine' ne_nilN (vs := us) ?k1 ?k2 ?k3 ?k4 ?_;(case k1=>k_asm);(case k3=>k_mem);(case k2=>(first | assumption | exact List.mem_cons_of_mem _ (by assumption) | exact List.mem_cons_of_mem _ (List.mem_cons_of_mem _ (by assumption)) | exact List.mem_cons_of_mem _ (List.mem_cons_of_mem _ (List.mem_cons_of_mem _ (by assumption))) | exact List.mem_cons_of_mem _ (List.mem_cons_of_mem _ (List.mem_cons_of_mem _ (List.mem_cons_of_mem _ (by assumption)))) | exact List.mem_cons_of_mem _ (List.mem_cons_of_mem _ (List.mem_cons_of_mem _ (List.mem_cons_of_mem _ (List.mem_cons_of_mem _ (by assumption))))) | exact List.mem_cons_of_mem _ (List.mem_cons_of_mem _ (List.mem_cons_of_mem _ (List.mem_cons_of_mem _ (List.mem_cons_of_mem _ (List.mem_cons_of_mem _ (by assumption)))))) | exact List.mem_cons_of_mem _ (List.mem_cons_of_mem _ (List.mem_cons_of_mem _ (List.mem_cons_of_mem _ (List.mem_cons_of_mem _ (List.mem_cons_of_mem _ (List.mem_cons_of_mem _ (by assumption))))))) | exact List.mem_cons_of_mem _ (List.mem_cons_of_mem _ (List.mem_cons_of_mem _ (List.mem_cons_of_mem _ (List.mem_cons_of_mem _ (List.mem_cons_of_mem _ (List.mem_cons_of_mem _ (List.mem_cons_of_mem _ (by assumption)))))))) | exact List.mem_cons_of_mem _ (List.mem_cons_of_mem _ (List.mem_cons_of_mem _ (List.mem_cons_of_mem _ (List.mem_cons_of_mem _ (List.mem_cons_of_mem _ (List.mem_cons_of_mem _ (List.mem_cons_of_mem _ (List.mem_cons_of_mem _ (by assumption))))))))) | exact List.mem_cons_of_mem _ (List.mem_cons_of_mem _ (List.mem_cons_of_mem _ (List.mem_cons_of_mem _ (List.mem_cons_of_mem _ (List.mem_cons_of_mem _ (List.mem_cons_of_mem _ (List.mem_cons_of_mem _ (List.mem_cons_of_mem _ (List.mem_cons_of_mem _ (by assumption))))))))))));(case k4=>ktr_units)))
  k_with "call builtin:list.append cons nil" => (k_dflt (refine' append_mine ?k1 ?k2 ?k3 ?ku ?_;(case k1=>k_asm);(case k2=>k_asm);(case ku=>exact updR (pre := [_,_]) (fun p hp=>Nat.ne_of_lt (lS8 p hp)) ⟨by (first | k_ne | exact Ne.symm o9.1 | exact Ne.symm o9.2.1 | exact Ne.symm o9.2.2.1),by (first | k_ne | exact Ne.symm o9.1 | exact Ne.symm o9.2.1),trivial⟩);(case k3=>exact Nat.le_trans (lss9 _) (by decide)));intro h9 F9 N9;(try dsimp only [List.cons_append,List.nil_append] at N9))
  k_with "ifs" => ((with_reducible show wpAny _ _ (PySem.exec (PySem.Stmt.If _ [PySem.Stmt.Expr _ _] _ _) _) _ _ _);(fail_if_success (with_reducible show wpAny _ _ _ (SrcP _ _ _ _ _ _ _ _) _ _));k_dflt (refine' src_cut S9 (Y9,listOf (List.toArray rv9) ky9) news (lsrcF ws ls) ?k1 ?_ ?_;(case k1=>k_asm));rotate_left 1;intro sv9 sc9 h9 tk9 sx9 F9 N9;(try dsimp only);(try k_fold);rotate_left 1)
  k_with "SrcP" => (k_dflt (first | (have q9 := (by with_reducible assumption : us = []);refine' ⟨rfl,_,0,_,_,src_l2 (ss9 _) iu q9,?kF,?kN,rfl⟩) | (have q9 := (by with_reducible assumption : ¬ us = []);refine' ⟨rfl,_,0 + 1,_,_,src_l1 (t := t9) (ss9 _) iu q9,?kF,?kN,rfl⟩));(case kF=>k_asm);(case kN=>(refine' cb_drop ?cbN ?cbS;(case cbN=>assumption);(case cbS=>kcj_all))))
  k_with "for" => ((rename Fr _ _ _ _=>lF');(k_dflt (refine' for_rng lF' ?_)))
  k_with "ForRng" => (k_dflt (refine' ForRng.mk' ((lrowsF ws ls base).length) _ _ (dueJ _ ((Y9,listOf (List.toArray rv9) ky9) :: news) (lrowsF ws ls base)) (⟨_,_,_,_,rfl,?kr⟩) rfl ?kz ?k1 ?k2 ?k3 ?kst ?kfn;(case kr=>assumption);(case kz=>omega);(case k1=>k_asm);(case k3=>(refine' due_start (c := 0) ?hq9;(case hq9=>exact rfl)));(case k2=>(refine' cb_drop ?cbN ?cbS;(case cbN=>assumption);(case cbS=>kcj_all)));(case' kst=>(intro i9 t9 m9 n9 h9 tk9 I9 oI9 hi9 hJ9 F9 N9 off9;refine dueJ.opI hJ9 F9 N9 off9 ?_;clear F9 N9 off9 hJ9;intro o9 Dd9 ds9 c9 hs9 F9 N9 off9;have ld9 : ds9.length ≤ 40 := by (rw [sa_len hs9];have q9 := (due_b ⟨ld3,ld5⟩ i9).2;omega);(try dsimp only)));(case' kfn=>(intro h9 tk9 m9 n9 F9 N9 hJ9;refine dueJ.opZ hJ9 F9 N9 ?_;clear F9 N9 hJ9;intro o9 Dd9 ds9 c9 hs9 F9 N9;(try dsimp only)))))
  k_with "ifx" => (first | ((with_reducible show wpAny _ _ (PySem.eval (PySem.Expr.IfExp (PySem.Expr.Compare _ _ [PySem.Expr.Constant _ _ _] _) _ _ _) _) _ _ _);(fail_if_success (with_reducible show wpAny _ _ _ (ListP _ _ _ _ _ _) _ _));k_dflt (refine' list_cut (if (i9 : Int) = 0 then [Str.ofString "a:",Str.ofString "b:"] else []) ?k1 ?k2 ?_ ?_;(case k1=>k_asm);(case k2=>k_asm));rotate_left 1;intro A9 va9 ca9 h9 tk9 sa9 F9 N9;(try dsimp only);(try k_fold);have la9 : va9.length ≤ 2 := (by (rw [sa_len sa9];split <;> decide));rotate_left 1) | ((with_reducible show wpAny _ _ (PySem.eval (PySem.Expr.IfExp (PySem.Expr.Compare _ _ [PySem.Expr.BinOp _ _ _ _] _) _ _ _) _) _ _ _);(fail_if_success (with_reducible show wpAny _ _ _ (ListP _ _ _ _ _ _) _ _));k_dflt (refine' list_cut (if (i9 : Int) = ((lrowsF ws ls base).length : Int) - 1 then [Str.ofString "end:"] else []) ?k1 ?k2 ?_ ?_;(case k1=>k_asm);(case k2=>k_asm));rotate_left 1;intro B9 vb9 cb9 h9 tk9 sb9 F9 N9;(try dsimp only);(try k_fold);have lb9 : vb9.length ≤ 1 := (by (rw [sa_len sb9];split <;> decide));rotate_left 1))
  k_with "ListP" => (first | (k_dflt (refine' ⟨_,[.str _ _,.str _ _],_,_,_,rfl,?ks,?kF,?kN,rfl⟩;(case kF=>k_asm);(case kN=>with_unfolding_all k_asm);(case ks=>(rw [if_pos (by assumption)];exact .cons _ _ (.cons _ _ .nil))))) | (k_dflt (refine' ⟨_,[.str _ _],_,_,_,rfl,?ks,?kF,?kN,rfl⟩;(case kF=>k_asm);(case kN=>with_unfolding_all k_asm);(case ks=>(rw [if_pos (by assumption)];exact .cons _ _ .nil)))) | (k_dflt (refine' ⟨_,[],_,_,_,rfl,?ks,?kF,?kN,rfl⟩;(case kF=>k_asm);(case kN=>with_unfolding_all k_asm);(case ks=>(rw [if_neg (by assumption)];exact .nil)))))
  k_with "subscriptTail Name Name ref int" => (k_dflt (refine' str_item (l := lrowsF ws ls base) ?k1 ?k2 sr9 hi9 ?k3 ?_;(case k1=>k_asm);(case k2=>k_mem);(case k3=>omega));intro tr9)
  k_with "StepE" => (k_dflt (refine' StepE.mk' _ _ _ _ rfl ?k1 ?k2 ?k3 ?kj;(case k1=>k_asm);(case kj=>exact due_next (D' := S9) (c := 0) (t := tr9) hs9 sa9 sb9 rfl rfl);(case k2=>(refine' cb_drop ?cbN ?cbS;(case cbN=>assumption);(case cbS=>kcj_all)));(case k3=>(intro p9 hp9;rcases List.mem_cons.mp hp9 with rfl | hp9;k_ne;exact off9 p9 (.tail _ hp9)))))
  k_with "eval Call Name cons nil" => ((with_reducible show wpAny _ _ (PySem.eval (PySem.Expr.Call (PySem.Expr.Name (PySem.Str.ofString "symbol_listing") _) _ _ _) _) _ _ _);refine Call_ ?_)
  k_with "call ref cons nil" => ((with_reducible show wpAny _ _ (PySem.call (Value.ref 410) _ _) _ _ _);k_dflt (first | refine' cb_use (c_symD hd _ _ _ _ _ _ _ _ _ _) ?k1 ?k2 ?k3 ?k4 ?k5 ?kK ?kp ?kd ?ku ?_);(case k1 | k2 | k3 | k4 | k5=>k_asm);(case kK=>first | exact rfl | assumption);(case kp=>exact ⟨hB9,by k_mem,by assumption,by assumption,rfl⟩);(case kd=>ktr_room);(case ku=>ktr_units);intro t9 h9 tk9 F9 N9;(try dsimp only);(try k_fold))
  k_with "call builtin:len cons nil" => (k_dflt (refine' len_strs (l := lrowsF ws ls base) ?k1 ?k2 sr9 ?k3 ?_;(case k1=>k_asm);(case k2=>k_mem);(case k3=>omega));intro t9 tk9)
  k_with "call builtin:str.join cons nil" => (k_dflt (first | (refine' join_rows (l := lrowsF ws ls base) ?k1 ?k2 ?k3 ?k4 ?k5 ?_;(case k1=>k_asm);(case k2=>k_mem);(case k3=>exact sr9);(case k4=>decide);(case k5=>exact ⟨fun y hy=>Nat.le_trans (ld5 y hy) (by decide),by omega⟩)) | (refine' join_fig (ks := ls) ?k1 ?k2 ?k3 ?k4 ?k5 ?k6 ?_;(case k1=>k_asm);(case k2=>k_mem);(case k3=>exact hL2);(case k4=>exact (Eq.trans (by assumption) (IntsAre.length iu)));(case k5=>exact hl3);(case k6=>(rw [← IntsAre.length iu];assumption))) | (refine' join_rows (l := lsrcF ws ls) ?k1 ?k2 ?k3 ?k4 ?k5 ?_;(case k1=>k_asm);(case k2=>k_mem);(case k3=>exact sx9);(case k4=>decide);(case k5=>exact lsrc_b hd))| (refine' join_rows (l := dueUpTo (lrowsF ws ls base) (lrowsF ws ls base).length) ?k1 ?k2 ?k3 ?k4 ?k5 ?_;(case k1=>k_asm);(case k2=>k_mem);(case k3=>exact hs9);(case k4=>decide);(case k5=>exact ⟨(due_b ⟨ld3,ld5⟩ _).1,Nat.le_trans (due_b ⟨ld3,ld5⟩ _).2 (by omega)⟩)) | fail);first | intro z9 t9 k9 | intro t9 k9)
  k_with "Plain" => (k_dflt (refine' plain_intro ?k1 ?k2 ?k3 ?kr;(case k1=>k_asm);(case k2=>k_asm);(case k3=>kcj_all);(case kr=>k_extra "elt")))
  k_with "free" => ((with_reducible show wpAny _ _ (PySem.eval (PySem.Expr.Name _ _) (compEnvC _ _ _ _)) _ _ _);k_dflt (refine' ld_freeC ?k1 ?k2 ?k3 ?k4 ?_ ?k5 ?k6;(case k5=>rfl);(case k6=>rfl);(case k1=>k_asm);(case k2=>rfl);(case k3=>k_mem);(case k4=>k_asm);k_whole))
  refine wpAny_call ?_
  k_dflt cell_enter
  (try (rename Fr _ _ _ _=>Fm9;replace Fm9 : Fr _ _ _ (fun y=>List.lookup y [(Str.ofString "base",.int base tbb),(Str.ofString "left",.ref Lr),(Str.ofString "drawn",.ref D)]) := Fm9))
  k_steps
  all_goals (first | (refine' cb_retB hret ?e1 ?e2 ?e3;(case e2=>k_asm);(case e3=>first | k_asm | (refine' cb_drop ?cbN ?cbS;(case cbN=>assumption);(case cbS=>kcj_all)));(case e1=>rfl)))
end
section
open PyProof.Rows.LCg PySem.Calls
section
open PySem.Calls
variable {g : G}
theorem Ev.starts {o e : Expr} {ap pos : Pos} {x y : Str} (h1 : Ev g o (.s x)) (h2 : Ev g e (.s y)) (hs : ∀ env,starEach [e] env = [(false,eval e env)]) (hc : Mc o "startswith" ap [e] pos) : Ev g (.Call (.Attribute o "startswith" ap) [e] [] pos) (.b (Txt.startswith x y)) := .mk fun c m s Q E ok hl F N hQ =>
  let ⟨_,hpl⟩ := hc
  MethodCall_ (h1.run c m s _ E ok hl F N fun _ h' tk' ⟨t,e1⟩ F' N'=>e1 ▸ PySem.GM.startswith (callWith_method1 (args_cons (h2.run c m { s with heap := h',toks := tk' } _ E ok hl F' N' fun _ h2' tk2 ⟨u,e2⟩ F2 N2=>e2 ▸ args_nil (PySem.SC.startswith (hQ _ h2' tk2 rfl F2 N2))) (hs _)) (hs _) rfl)) (hpl _)
theorem Cm.neSelf {v : Int} : Cm g .NotEq (.i v) (.i v) false := .mk fun _ _ _ _ _ _ _ _ _ _ ⟨_,e1⟩ ⟨_,e2⟩ hQ=>e1 ▸ e2 ▸ ne_selfI hQ
theorem Cm.eqStarts {v : Int} (h : 0 ≤ v ∧ v < 2 ^ 32) : Cm g .Eq (.b (Txt.startswith (disF v) (Str.ofString ".word"))) (.b (oneF v)) false := .mk fun _ _ _ _ _ _ _ _ _ _ e1 e2 hQ=>by
  cases e1;cases e2
  exact eq_starts h rfl hQ
end
theorem law_walk {w : World} {mean : ExcName → Option Value} {mg mb : Str → Option Value} {dp un : Nat} {gd : Option (List Code)} {outer : List Env} {A₀ : Around} {base H : Heap} {fa : Addr} {cd : Value} {L l : Addr} {vs : List Value} {ns : List Int} {o : Obj} {s : Shared} {Q : Flow → Shared → Prop} {R : Result → Shared → Prop}
    (B : Below A₀ base outer H) (F : Fr H L s.heap (fun y=>if y = Str.ofString "script" then some (.ref l) else none)) (X : (hd.heap_39 w.params).In H) (N : News H L s.heap [(L + 1,o)]) (T : Top hd.view_39 looseL mean mg mb H) (hd1 : dp + 30 < recursionLimit) (hu1 : un + 240 < cLine) (ho : o.data = .cell none) (hl : H.IsList l vs.toArray) (hi : IntsAre vs ns) (hn : ns.length ≤ 63)
    (hret : ∀ h' m' tk' news',Fr H L h' m' → News H L h' news' → Q (.ret (.bool true)) { s with heap := h',toks := tk' }) :
    wpAny (model PySem.Challenge.rw_nm0011_01.row.prog w) (ktrTop dp un gd (Str.ofString "law") sc56 L fa cd [(Str.ofString "well",L + 1)] outer) (execs b56 (envX (Str.ofString "law") sc56 L fa cd [(Str.ofString "well",L + 1)])) Q (fun e s'=>wpAny (model PySem.Challenge.rw_nm0011_01.row.prog w) (ktrTop dp un gd (Str.ofString "law") sc56 L fa cd [(Str.ofString "well",L + 1)] outer) (leaving (envX (Str.ofString "law") sc56 L fa cd [(Str.ofString "well",L + 1)]) e) (fun _ s''=>R (.error e) s'') (fun e' s''=>R (.error e') s'') s') s := by
  revert X
  k_fill
  intro X
  k_with_none
  k_with "ev" => first
    | exact Ev.str
    | (apply Ev.loc;rfl;rfl)
  k_with "te" => first
    | (apply Te.cmp;k_extra "ev";k_extra "ev";k_extra "cm";rfl)
  k_with "cm" => first
    | exact Cm.neSelf
    | (apply Cm.eqStarts;assumption)
  k_with "te" => first
    | (apply Te.or2;k_extra "te";(intro _;k_extra "te"))
  k_with "ev" => first
    | (refine' Ev.call1 (D := 18) ?zf ?za0 ?zc ?zd ?zs0 ?zk;(case zf=>(apply Ev.glo;rfl;exact gk_readl _));(case za0=>k_extra "ev");(case zd=>rfl);(case zs0=>exact fun _=>rfl);(case zk=>exact kk_readl _);(case zc=>(rintro _ ⟨t0,rfl⟩;exact Cp.ofI (c_readv _ _) (by assumption))))
    | (refine' Ev.call1 (D := 1) ?zf ?za0 ?zc ?zd ?zs0 ?zk;(case zf=>(apply Ev.glo;rfl;exact gk_one _));(case za0=>k_extra "ev");(case zd=>rfl);(case zs0=>exact fun _=>rfl);(case zk=>exact kk_one _);(case zc=>(rintro _ ⟨t0,rfl⟩;exact Cp.ofB (c_one _ _) (by assumption))))
    | (refine' Ev.call2 (D := 14) ?zf ?za0 ?za1 ?zc ?zd ?zs0 ?zs1 ?zk;(case zf=>(apply Ev.glo;rfl;exact gk_tgt _));(case za0=>k_extra "ev");(case za1=>k_extra "ev");(case zd=>rfl);(case zs0=>exact fun _=>rfl);(case zs1=>exact fun _=>rfl);(case zk=>exact kk_tgt _);(case zc=>(rintro _ _ ⟨t0,rfl⟩ ⟨t1,rfl⟩;exact Cp.ofI (c_tgt _ _ _ _) (by assumption))))
    | (refine' Ev.call3 (D := 14) ?zf ?za0 ?za1 ?za2 ?zc ?zd ?zs0 ?zs1 ?zs2 ?zk;(case zf=>(apply Ev.glo;rfl;exact gk_ltgt _));(case za0=>k_extra "ev");(case za1=>k_extra "ev");(case za2=>k_extra "ev");(case zd=>rfl);(case zs0=>exact fun _=>rfl);(case zs1=>exact fun _=>rfl);(case zs2=>exact fun _=>rfl);(case zk=>exact kk_ltgt _);(case zc=>(rintro _ _ _ ⟨t0,rfl⟩ ⟨t1,rfl⟩ ⟨t2,rfl⟩;exact Cp.ofI (c_lt _ _ _ _ _) (by assumption))))
    | (apply Ev.starts;k_extra "ev";k_extra "ev";exact fun _=>rfl;exact ⟨_,fun _=>rfl⟩)
  k_with "eval Call Name cons nil" => ((with_reducible show wpAny _ _ (PySem.eval (PySem.Expr.Call (PySem.Expr.Name (PySem.Str.ofString "_law_lists_right") _) _ _ _) _) _ _ _);refine Call_ ?_)
  k_with "call ref cons nil" => ((with_reducible show wpAny _ _ (PySem.call (Value.ref 502) _ _) _ _ _);k_dflt (first | refine' cb_use (c_right _ _ vs9 ys9 c9 _ ws9 zs9 _ _) ?k1 ?k2 ?k3 ?k4 ?k5 ?kK ?kp ?kd ?ku ?_);(case k1 | k2 | k3 | k4 | k5=>k_asm);(case kK=>first | exact rfl | assumption);(case kp=>exact ⟨by k_dflt k_mem,by k_dflt k_mem,hi9,ib9,drawn_of (vs := []) (zs := []) hl9 (by omega) hw9 lb9 (by omega) wb9 (by assumption)⟩);(case kd=>ktr_room);(case ku=>ktr_units);intro t9 h9 tk9 F9 N9;(try dsimp only);(try k_fold))
  k_with "eval Call Name cons nil" => ((with_reducible show wpAny _ _ (PySem.eval (PySem.Expr.Call (PySem.Expr.Name (PySem.Str.ofString "_law_word") _) _ _ _) _) _ _ _);refine Call_ ?_)
  k_with "call ref cons nil" => ((with_reducible show wpAny _ _ (PySem.call (Value.ref 430) _ _) _ _ _);k_dflt (first | refine' cbk_use (c_word _ _ _ _ _ _ _ _ _ _ _) ?k1 ?k2 ?k3 ?k4 ?k5 ?kK ?kp ?kd ?ku ?_);(case k1=>k_asm);(case k2=>k_asm);(case k3=>k_asm);(case k4=>first | k_asm | exact news_swap (by assumption) | exact news_w4 (by assumption));(case k5=>k_asm);(case kK=>first | exact rfl | assumption);(case kp=>(refine' ⟨?q1,?q2,?q3,?q4,?q5⟩;(case q2=>k_dflt k_mem);(case q1=>(refine NeAll.get ?_;repeat (first | exact trivial | refine And.intro (by first | exact Ne.symm (off9 _ (.head _)) | exact Ne.symm off9.1.1 | exact Ne.symm off9.1.2.1 | exact Ne.symm off9.1.2.2 | k_ne) ?_)));(case q3=>assumption);(case q4=>(rw [List.length_map,List.length_take];exact Nat.le_trans (Nat.min_le_left _ _) (by decide)));(case q5=>first | assumption | decide)));(case kd=>ktr_room);(case ku=>ktr_units);intro v9 a9 st9 ta9 ts9 t9 h9 tk9 r9 ha9 F9 N9;(try dsimp only);(try k_fold))
  k_with "eval Call Name cons nil" => ((with_reducible show wpAny _ _ (PySem.eval (PySem.Expr.Call (PySem.Expr.Name (PySem.Str.ofString "_law_draw") _) _ _ _) _) _ _ _);refine Call_ ?_)
  k_with "call ref cons nil" => ((with_reducible show wpAny _ _ (PySem.call (Value.ref 423) _ _) _ _ _);k_dflt (first | refine' cbk_use (c_draw _ _ _ _ _ _ _ _ _ _ _ _ _) ?k1 ?k2 ?k3 ?k4 ?k5 ?kK ?kp ?kd ?ku ?_);(case k1=>k_asm);(case k2=>k_asm);(case k3=>k_asm);(case k4=>first | k_asm | exact news_swap (by assumption) | exact news_w4 (by assumption));(case k5=>k_asm);(case kK=>first | exact rfl | assumption);(case kp=>(refine' ⟨?q1,?q2,?q3,?q4,?q5,by decide⟩;(case q2=>k_dflt k_mem);(case q1=>(refine NeAll.get ?_;repeat (first | exact trivial | refine And.intro (by first | exact Ne.symm (off9 _ (.head _)) | exact Ne.symm off9.1.1 | exact Ne.symm off9.1.2.1 | exact Ne.symm off9.1.2.2 | k_ne) ?_)));(case q3=>assumption);(case q4=>(rw [List.length_map,List.length_take];exact Nat.le_trans (Nat.min_le_left _ _) (by decide)));(case q5=>first | assumption | decide)));(case kd=>ktr_room);(case ku=>ktr_units);intro v9 a9 st9 ta9 ts9 t9 h9 tk9 r9 ha9 F9 N9;(try dsimp only);(try k_fold))
  k_with "for" => ((rename Fr _ _ _ _=>lF');(k_dflt (refine' for_rng lF' ?_)))
  k_with "ForRng" => (k_dflt (refine' ForRng.mk' (v9.toNat) _ _ (lawJ1 _ _ _ _ _ _) (⟨_,_,_,_,rfl,?kr⟩) rfl ?kz ?k1 ?k2 ?k3 ?kst ?kfn;(case kr=>(rw [Int.toNat_of_nonneg r9.1];assumption));(case kz=>omega);(case k1=>k_asm);(case k2=>k_asm);(case k3=>exact law1_start (by assumption) (by assumption));(case' kst=>(intro i9 t9 m9 n9 h9 tk9 I9 oI9 li9 hJ9 F9 N9 off9;refine lawJ1.opI hJ9 F9 N9 off9 ?_;clear F9 N9 off9 hJ9;intro o9 ws9 vs9 c9 aa9 st9 ta9 ts9 hi9 hl9 hw9 haa9 F9 N9 off9;have hvl9 := IntsAre.length hi9;(try dsimp only)));(case' kfn=>(intro h9 tk9 m9 n9 F9 N9 hJ9;refine lawJ1.opZ hJ9 F9 N9 ?_;clear F9 N9 hJ9;intro o9 ws9 vs9 c9 aa9 st9 ta9 ts9 hi9 hl9 hw9 haa9 F9 N9;have hvl9 := IntsAre.length hi9;(try dsimp only)))))
  k_with "call builtin:list.append cons nil" => (k_dflt (refine' append_mine ?k1 ?k2 ?k3 ?ku ?_;(case k1=>k_asm);(case k2=>k_asm);(case ku=>exact updR (pre := [_,_]) (by (refine NeAll.get ?_;repeat (first | exact trivial | refine And.intro (by k_ne) ?_))) ⟨by k_ne,Ne.symm (off9 _ (.tail _ (.head _))),trivial⟩);(case k3=>omega));intro h9 F9 N9;(try dsimp only [List.cons_append,List.nil_append] at N9))
  k_with "StepE" => (k_dflt (refine' StepE.mk' _ _ _ _ rfl ?k1 ?k2 ?k3 ?kj;(case k1=>k_asm);(case k2=>exact news_swap (by assumption));(case kj=>exact law1_next hi9 hl9 hw9 (by assumption) (by assumption));(case k3=>exact off_updN (P := fun a=>a ≠ I9) (pre := [_]) (off_head off9))))
  k_with "aslc" => (k_dflt (refine' comp_rangeJ ?k1 ?k2 ?k3 ?k4 ?k5 ?k6 ?k7 ?k8 ?k9 ?k0 ?_;(case k1=>k_asm);(case k2=>rfl);(case k3=>with_unfolding_all rfl);(case k4=>with_unfolding_all rfl);(case k5=>decide);(case k6=>rfl);(case k7=>decide);(case k8=>rfl);(case k9=>rfl);(case k0=>rfl)))
  k_with "SrcRngJ" => (k_dflt (refine' SrcRngJ.mk' _ _ _ _ _ _ (v9.toNat) _ (lawJ2 _ _ _ _) rfl rfl ?k1 ?k2 ?k3 ?k4 ?k5 ?k6 ?k0 ?kelJ ?kqJ;(case k1=>k_asm);(case k2=>k_asm);(case k3=>assumption);(case k4=>exact small_one (by omega) (by omega) (by omega) (by omega));(case k5=>exact rng_size _ r9.1);(case k6=>(rw [sizeLine_eq];omega));(case k0=>exact law2_start (by assumption));(case' kelJ=>(intro i9 ys9 nw9 v9 I9 oI9 C9 oC9 D9 m9 h9 tk9 E9 li9 hJ9 hv9 hC9 hx9 F9 N9 off9 ne9;refine lawJ2.opJ3 hJ9 N9 off9 ?_;clear N9 off9 hJ9;intro zs9 ab9 sb9 tab9 tsb9 ib9 lb9 wb9 hab9 N9 off9;have hvb9 := IntsAre.length ib9;obtain ⟨t9,e9⟩ := hv9;subst e9;have off8 := off9;(try simp only [PyProof.Rows.LCg.Off3,and_true] at off9);(try dsimp only)));(case' kqJ=>(intro ys9 nw9 D9 h9 tk9 hJ9 F9 N9 o9;refine lawJ2.opJ1 hJ9 N9 o9 ?_;clear N9 o9 hJ9;intro zs9 ab9 sb9 tab9 tsb9 ib9 lb9 wb9 hab9 N9 o9;have hvb9 := IntsAre.length ib9;(try simp only [PyProof.Rows.LCg.Off1,and_true] at o9);(try dsimp only)))))
  k_with "TurnJ" => (k_dflt (refine' TurnJ.mk' _ _ _ rfl ?k1 ?k2 ?k3 ?k4;(case k1=>k_asm);(case k2=>exact news_4w (by assumption));(case k4=>exact law2_next ib9 lb9 wb9 (by assumption) (by assumption));(case k3=>exact off3_head rfl off8)))
  k_with "free" => ((with_reducible show wpAny _ _ (PySem.eval (PySem.Expr.Name _ _) (compEnvC _ _ _ _)) _ _ _);k_dflt (refine' ld_freeC ?k1 ?k2 ?k3 ?k4 ?_ ?k5 ?k6;(case k5=>rfl);(case k6=>rfl);(case k1=>k_asm);(case k2=>rfl);(case k3=>k_mem);(case k4=>k_asm);k_whole))
  k_with "for2" => ((rename Fr _ _ _ _=>lF');(k_dflt (refine' for_made lF' ?_)))
  k_with "ForLst" => (k_dflt (refine' ForLst.mk' _ vs9 c9 _ _ (lawJ3 _ _) rfl rfl ?k1 ?k2 ?k3 ?k4 ?kst3 ?kfn3;(case k1=>k_asm);(case k2=>k_asm);(case k3=>exact law3_start);(case k4=>(rintro i9 m9 n9 ⟨o19,o29,e1,e2⟩;subst e2;k_mem));(case' kst3=>(intro i9 v9 m9 n9 h9 tk9 I9 oI9 hv9 hJ9 F9 N9 off9;refine lawJ3.opI hJ9 F9 N9 off9 ?_;clear F9 N9 off9 hJ9;intro o19 o29 F9 N9 off9;obtain ⟨t9,e9,g9⟩ := int_at hi9 i9 v9 hv9;subst e9;have w99 := hw9 _ (List.mem_of_getElem? g9);have q1 := disF_len _ w99;(try dsimp only)));(case' kfn3=>(intro h9 tk9 m9 n9 F9 N9 hJ9;refine lawJ3.opZ hJ9 F9 N9 ?_;clear F9 N9 hJ9;intro o19 o29 F9 N9;(try dsimp only)))))
  k_with "StepE" => (k_dflt (refine' StepE.mk' _ _ _ _ rfl ?k1 ?k2 ?k3 ?kj;(case k1=>k_asm);(case k2=>k_asm);(case k3=>exact off9);(case kj=>exact law3_next)))
  k_with "eval Call Name cons nil" => ((with_reducible show wpAny _ _ (PySem.eval (PySem.Expr.Call (PySem.Expr.Name (PySem.Str.ofString "disassemble") _) _ _ _) _) _ _ _);refine Call_ ?_)
  k_with "call ref cons nil" => ((with_reducible show wpAny _ _ (PySem.call (Value.ref 372) _ _) _ _ _);k_dflt (first | refine' cb_use (c_dis _ _) ?k1 ?k2 ?k3 ?k4 ?k5 ?kK ?kp ?kd ?ku ?_);(case k1 | k2 | k3 | k4 | k5=>k_asm);(case kK=>first | exact rfl | assumption);(case kp=>assumption);(case kd=>ktr_room);(case ku=>ktr_units);intro t9 h9 tk9 F9 N9;(try dsimp only);(try k_fold))
  k_with "isTrue BoolOp Or cons" => ((k_dflt (refine' te_walk (b := false) (D := 18) ?h ?hl ?k1 ?k2 ?k3 ?k4 ?k5 ?kK ?kd ?ku ?_;(case k1=>k_asm);(case k2=>k_asm);(case k3=>k_asm);(case k4=>first | k_asm | exact news_tail (by assumption));(case k5=>k_asm);(case kK=>first | exact rfl | assumption);(case kd=>ktr_room);(case ku=>ktr_units);(case hl=>exact Locs.str (x := Str.ofString "said") rfl (Locs.int (x := Str.ofString "sum_now") rfl (Locs.int (x := Str.ofString "base") rfl (Locs.nil'))));(case h=>(refine' Te.conv ?zt ?zr;(case zt=>k_extra "te");(case zr=>rfl)))));intro h9 tk9 F9 N9;(try dsimp only))
  k_with "isTrue Compare Call cons cons" => (k_extra "isTrue BoolOp Or cons")
  k_steps
  all_goals (first | (refine' hret _ _ _ _ ?e1 ?e2;(case e1=>k_asm);(case e2=>k_asm)))
end
section
open PyProof.Rows.LCg PySem.Calls
local macro_rules | `(tactic| k_qdec)=>`(tactic| decide +kernel)
theorem law_holds : PySem.Challenge.rw_nm0011_01.Holds := by
  w_on
  refine holds_law law_said fun said=>?_
  refine holds_open (q := hd.view_39) (loose := looseQ) (Xt := Xt) (XP := XL hd.view_39 []) (Yf := Hook.obs HK) (Ya := Hook.val HK) (YP := Hook.says HK) (N := 17252) hlp (Hook.of HK) (Hook.keeps HK) (fun s e=>xl_of s (Bool.and_eq_true_iff.mp e).1) XL.keeps (by rfl) (by rfl) (by rfl) (fun s e=>recFacts_of (Bool.and_eq_true_iff.mp e).2) (by rfl) (by first | assumption | decide +kernel) (by decide +kernel) ⟨rfl,rfl,rfl,rfl,rfl,by decide +kernel⟩ ?hw ?hc
  (case hw=>w_witness2)
  w_strict k_go0
  all_goals (try k_fold)
  rename CellsAre _ _ _=>hX
  rename Below _ _ _ _=>hB
  rename Frag.In _ _=>hK
  rename Top _ _ _ _ _ _=>hT
  rename PySem.Heap.IsList _ _ _=>hL
  rename IntsAre _ _=>hI
  rename News _ _ _ _=>hN
  rename Fr _ _ _ _=>hF
  k_dflt (refine' law_walk hB ?kF hK hN hT ?kd ?ku ?ko hL hI ?kn ?kr)
  (case kF=>with_unfolding_all exact hF)
  (case kd=>decide)
  (case ku=>decide)
  (case ko=>(obtain ⟨o',e',d'⟩ := CellsAre.one hX;(cases e');with_unfolding_all exact d'))
  (case kn=>omega)
  (case kr=>(intro h9 m9 tk9 n9 F9 N9;k_steps))
end
end Mine
theorem PySem.Challenge.cw_nm0011_01_holds : PySem.Challenge.rw_nm0011_01.Holds := by
  exact Mine.law_holds
