import Derived.Test.YthlebjnhcinheaaDoorRows
import Derived.ProofKit
import Derived.JoinedOf
import Derived.SevenTiedAt
namespace Go.Proofs.YthlebjnhcinheaaDoor
open Go
set_option maxRecDepth 100000
theorem topTamed_k10 : (Rows.topTamedRow.inPlace == Tryd.prog.inPlace 3) = true := by kernel_rfl
theorem topTamed_k11 : (Rows.topTamedRow.unfollowed == Tryd.prog.unfollowed 3) = true := by kernel_rfl
theorem topTamed_k12 : (Rows.topTamedRow.recurses == Tryd.prog.recurses 3) = true := by kernel_rfl
theorem topTamed_goes : false = Rows.topTamedRow.goesBy Tryd.prog := by kernel_rfl
theorem topTamed_k13 : (Rows.topTamedRow.named == Tryd.prog.varsNamed 3) = true := by kernel_rfl
end Go.Proofs.YthlebjnhcinheaaDoor
