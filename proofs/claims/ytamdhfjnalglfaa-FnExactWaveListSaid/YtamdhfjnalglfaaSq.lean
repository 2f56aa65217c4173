/- Words that the walks use. -/
import Derived.Test.YtamdhfjnalglfaaWWords
import Derived.Test.YtamdhfjnalglfaaWLast
import Derived.Test.YtamdhfjnalglfaaWApart
import Derived.Test.YtamdhfjnalglfaaWMore
namespace Go.Proofs.Ytamdhfjnalglfaa
open Go.RowKit Go.Proofs.YtamdhfjnalglfaaW.PrintWords Go.Proofs.YtamdhfjnalglfaaW.PrintLast Go.Proofs.YtamdhfjnalglfaaW.PrintMore
set_option linter.defProp false
def aR := @Kd.R_alloc
def nR := @Kd.R_drewN
def dR := @Kd.R_drew
def aS := @Kd.S_alloc
def nS := @Kd.S_drewN
def dS := @Kd.S_drew
def aC := @Kd.C_alloc
def nC := @Kd.C_drewN
def dC := @Kd.C_drew
def aB := @blk_alloc
def nB := @blk_drewN
def dB := @blk_drew
def aZ := @below_alloc
def nZ := @pw_below_drewN
def dZ := @below_drew1
def sZ := @below_set
def mk0 := @Aside0.mk
abbrev T : Bool := true
abbrev F : Bool := false
theorem sA {α : Type} (l : List α) (i : Nat) (x : α) : l.toArray.setIfInBounds i x = (l.set i x).toArray := by simp
theorem sO {α : Type} (a b : α) (l : List α) : (a :: l).set 0 b = b :: l := rfl
theorem sS {α : Type} (a b : α) (l : List α) (n : Nat) : (a :: l).set (n + 1) b = a :: l.set n b := rfl
theorem mA {α β : Type} (f : α → β) (l : List α) : l.toArray.map f = (l.map f).toArray := by simp
theorem mC {α β : Type} (f : α → β) (a : α) (l : List α) : (a :: l).map f = f a :: l.map f := rfl
theorem mN {α β : Type} (f : α → β) : ([] : List α).map f = [] := rfl
end Go.Proofs.Ytamdhfjnalglfaa
