import Derived.Test.YtaehphnchiffnaaDoorRows
import Derived.ProofKit
import Derived.JoinedOf
import Derived.SevenTiedAt
namespace Go.Proofs.YtaehphnchiffnaaDoor
open Go
set_option maxRecDepth 100000
theorem sideAlbums_k10 : (Rows.sideAlbumsRow.inPlace == Tryd.prog.inPlace 4) = true := by kernel_rfl
theorem sideAlbums_k11 : (Rows.sideAlbumsRow.unfollowed == Tryd.prog.unfollowed 4) = true := by kernel_rfl
theorem sideAlbums_k12 : (Rows.sideAlbumsRow.recurses == Tryd.prog.recurses 4) = true := by kernel_rfl
theorem sideAlbums_goes : false = Rows.sideAlbumsRow.goesBy Tryd.prog := by kernel_rfl
theorem sideAlbums_k13 : (Rows.sideAlbumsRow.named == Tryd.prog.varsNamed 4) = true := by kernel_rfl
end Go.Proofs.YtaehphnchiffnaaDoor
