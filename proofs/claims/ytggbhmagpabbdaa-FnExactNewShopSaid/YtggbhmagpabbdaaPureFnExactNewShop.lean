/- The program's NewShop returns what the reference's returns, for every number of looms: no condition. -/
import Derived.Test.YtggbhmagpabbdaaPFnExactNewShopx3
namespace Go.Proofs.Ytggbhmagpabbdaa.Pure
open Go.RowKit Go.Proofs.Ytggbhmagpabbdaa.PFnExactNewShop Go.Proofs.YtggbhmagpabbdaaW.PrintWords Go.Proofs.YtggbhmagpabbdaaW.PrintLast

theorem FnExactNewShop : laws_FnExactNewShop.Pure := by
  intro a h
  refine ⟨3, ?_⟩
  by_cases h1 : a ≥ 1
  · by_cases h2 : a ≤ 4
    · simp [laws_FnExactNewShop.f, spec_NewShop.f, impl_NewShop.f, spec_l1In.f, impl_in.f, h1, h2, laws_eqShop.f, laws_eqCarpetS.f, laws_eqCarpetS.l0, laws_FnExactNewShop.j0, laws_FnExactNewShop.j1, laws_markShop.f, laws_markCarpetS.f, laws_markCarpetS.l0, laws_heldShop.f, laws_heldCarpetS.f, laws_heldCarpetS.l0]
    · simp [laws_FnExactNewShop.f, spec_NewShop.f, impl_NewShop.f, spec_l1In.f, impl_in.f, h1, h2, laws_eqShop.f, laws_eqCarpetS.f, laws_eqCarpetS.l0, laws_FnExactNewShop.j0, laws_FnExactNewShop.j1, laws_markShop.f, laws_markCarpetS.f, laws_markCarpetS.l0, laws_heldShop.f, laws_heldCarpetS.f, laws_heldCarpetS.l0]
  · simp [laws_FnExactNewShop.f, spec_NewShop.f, impl_NewShop.f, spec_l1In.f, impl_in.f, h1, laws_eqShop.f, laws_eqCarpetS.f, laws_eqCarpetS.l0, laws_FnExactNewShop.j0, laws_FnExactNewShop.j1, laws_markShop.f, laws_markCarpetS.f, laws_markCarpetS.l0, laws_heldShop.f, laws_heldCarpetS.f, laws_heldCarpetS.l0]

end Go.Proofs.Ytggbhmagpabbdaa.Pure
