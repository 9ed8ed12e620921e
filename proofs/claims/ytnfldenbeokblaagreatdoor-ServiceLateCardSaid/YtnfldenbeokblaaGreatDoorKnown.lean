/- What is known of some functions. -/
import Derived.Test.YtnfldenbeokblaaGreatDoorPgOk
import Derived.Test.YtnfldenbeokblaaGreatDoorRunC
import Derived.Test.YtnfldenbeokblaaGreatDoorRunS
import Derived.Test.YtnfldenbeokblaaGreatDoorRunK
namespace Go.Proofs.YtnfldenbeokblaaGreatDoor.Ev
open Go Go.Proofs
set_option maxRecDepth 100000
theorem hfC : PP0.funcs.get 280 = some Tryz.f280 := by kernel_rfl
theorem hbC : Tryz.f280.body.isSome = true := by kernel_rfl
theorem hvC : closedV 4 (.agg clsL) = true := by kernel_rfl
theorem G1 : PgOK Tryz.prog PP1 := @PgOK.addSum Tryz.prog PP0 G0 280 Tryz.f280 hfC hbC (sum0 (.agg clsL)) (@sum0_ok Tryz.prog PP0 G0 200 280 Tryz.f280 hfC hbC (.agg clsL) runC 4 hvC)
theorem hfKV : PP0.funcs.get 157 = some Tryz.f157 := by kernel_rfl
theorem hbKV : Tryz.f157.body.isSome = true := by kernel_rfl
theorem okKV : ∀ x ∈ sV, closedL (closedV 4) x.1 = true ∧ closedV 4 x.2 = true ∧ runIs (call PP1 200 (.func 157) x.1 h0) x.2 = true := List.forall_mem_cons.2 ⟨⟨rfl, rfl, runV0⟩, (fun _ h => nomatch h)⟩
theorem GKV : PgOK Tryz.prog PV := @PgOK.addSum Tryz.prog PP1 G1 157 Tryz.f157 hfKV hbKV (sumL sV) (@sumL_ok Tryz.prog PP1 G1 200 157 Tryz.f157 hfKV hbKV sV 4 okKV)
theorem hfKL : PP0.funcs.get 232 = some Tryz.f232 := by kernel_rfl
theorem hbKL : Tryz.f232.body.isSome = true := by kernel_rfl
theorem okKL : ∀ x ∈ sL, closedL (closedV 4) x.1 = true ∧ closedV 4 x.2 = true ∧ runIs (call PP1 200 (.func 232) x.1 h0) x.2 = true := List.forall_mem_cons.2 ⟨⟨rfl, rfl, runL0⟩, List.forall_mem_cons.2 ⟨⟨rfl, rfl, runL1⟩, List.forall_mem_cons.2 ⟨⟨rfl, rfl, runL2⟩, (fun _ h => nomatch h)⟩⟩⟩
theorem GKL : PgOK Tryz.prog PL := @PgOK.addSum Tryz.prog PV GKV 232 Tryz.f232 hfKL hbKL (sumL sL) (@sumL_ok Tryz.prog PP1 G1 200 232 Tryz.f232 hfKL hbKL sL 4 okKL)
theorem hfKC : PP0.funcs.get 43 = some Tryz.f43 := by kernel_rfl
theorem hbKC : Tryz.f43.body.isSome = true := by kernel_rfl
theorem okKC : ∀ x ∈ sC, closedL (closedV 4) x.1 = true ∧ closedV 4 x.2 = true ∧ runIs (call PP1 200 (.func 43) x.1 h0) x.2 = true := List.forall_mem_cons.2 ⟨⟨rfl, rfl, runC0⟩, (fun _ h => nomatch h)⟩
theorem GKC : PgOK Tryz.prog PC := @PgOK.addSum Tryz.prog PL GKL 43 Tryz.f43 hfKC hbKC (sumL sC) (@sumL_ok Tryz.prog PP1 G1 200 43 Tryz.f43 hfKC hbKC sC 4 okKC)
theorem hfKE : PP0.funcs.get 42 = some Tryz.f42 := by kernel_rfl
theorem hbKE : Tryz.f42.body.isSome = true := by kernel_rfl
theorem okKE : ∀ x ∈ sE, closedL (closedV 4) x.1 = true ∧ closedV 4 x.2 = true ∧ runIs (call PP1 200 (.func 42) x.1 h0) x.2 = true := List.forall_mem_cons.2 ⟨⟨rfl, rfl, runE0⟩, (fun _ h => nomatch h)⟩
theorem GKE : PgOK Tryz.prog PE := @PgOK.addSum Tryz.prog PC GKC 42 Tryz.f42 hfKE hbKE (sumL sE) (@sumL_ok Tryz.prog PP1 G1 200 42 Tryz.f42 hfKE hbKE sE 4 okKE)
theorem hfKD : PP0.funcs.get 188 = some Tryz.f188 := by kernel_rfl
theorem hbKD : Tryz.f188.body.isSome = true := by kernel_rfl
theorem okKD : ∀ x ∈ sD, closedL (closedV 4) x.1 = true ∧ closedV 4 x.2 = true ∧ runIs (call PP1 200 (.func 188) x.1 h0) x.2 = true := List.forall_mem_cons.2 ⟨⟨rfl, rfl, runD0⟩, (fun _ h => nomatch h)⟩
theorem GKD : PgOK Tryz.prog PD := @PgOK.addSum Tryz.prog PE GKE 188 Tryz.f188 hfKD hbKD (sumL sD) (@sumL_ok Tryz.prog PP1 G1 200 188 Tryz.f188 hfKD hbKD sD 4 okKD)
theorem hfKN : PP0.funcs.get 436 = some Tryz.f436 := by kernel_rfl
theorem hbKN : Tryz.f436.body.isSome = true := by kernel_rfl
theorem okKN : ∀ x ∈ sN, closedL (closedV 4) x.1 = true ∧ closedV 4 x.2 = true ∧ runIs (call PP1 200 (.func 436) x.1 h0) x.2 = true := List.forall_mem_cons.2 ⟨⟨rfl, rfl, runN0⟩, (fun _ h => nomatch h)⟩
theorem GKN : PgOK Tryz.prog PN := @PgOK.addSum Tryz.prog PD GKD 436 Tryz.f436 hfKN hbKN (sumL sN) (@sumL_ok Tryz.prog PP1 G1 200 436 Tryz.f436 hfKN hbKN sN 4 okKN)
theorem hfKB : PP0.funcs.get 158 = some Tryz.f158 := by kernel_rfl
theorem hbKB : Tryz.f158.body.isSome = true := by kernel_rfl
theorem okKB : ∀ x ∈ sB, closedL (closedV 4) x.1 = true ∧ closedV 4 x.2 = true ∧ runIs (call PP1 200 (.func 158) x.1 h0) x.2 = true := List.forall_mem_cons.2 ⟨⟨rfl, rfl, runB0⟩, (fun _ h => nomatch h)⟩
theorem GKB : PgOK Tryz.prog PB := @PgOK.addSum Tryz.prog PN GKN 158 Tryz.f158 hfKB hbKB (sumL sB) (@sumL_ok Tryz.prog PP1 G1 200 158 Tryz.f158 hfKB hbKB sB 4 okKB)
theorem hf8 : PP0.funcs.get 8 = some Tryz.f8 := by kernel_rfl
theorem hb8 : Tryz.f8.body.isSome = true := by kernel_rfl
theorem G2 : PgOK Tryz.prog PP2 := GKB
theorem G3 : PgOK Tryz.prog PP3 := @PgOK.addSum Tryz.prog PP2 G2 8 Tryz.f8 hf8 hb8 (sum0 (.bool true)) (@sum0_ok Tryz.prog PP2 G2 200 8 Tryz.f8 hf8 hb8 (.bool true) runS 4 rfl)
end Go.Proofs.YtnfldenbeokblaaGreatDoor.Ev
