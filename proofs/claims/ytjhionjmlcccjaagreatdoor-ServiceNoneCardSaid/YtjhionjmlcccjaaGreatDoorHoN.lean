/- Objects. -/
import Derived.Test.YtjhionjmlcccjaaGreatDoorEvA
namespace Go.Proofs.YtjhionjmlcccjaaGreatDoor.Ev
open Go Go.Proofs
def I (n : Nat) : AVal := .int .i64 (.ofNat n)
def J (n : Int) : AVal := .int .i64 n
def S (n : Nat) : AVal := .str n
def F (f : Nat) (a b : List AVal) : AVal := .func (.func f) a b
def R (n et : Nat) (l : List AVal) : AObj := .cells (T.ofList l) n (some n) et
def U (n et : Nat) (l : List AVal) : AObj := .cells (T.ofList l) n none et
def o : T AObj := .nil
end Go.Proofs.YtjhionjmlcccjaaGreatDoor.Ev
