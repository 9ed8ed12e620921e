/- The program with calls known. -/
import Derived.Test.YtjhionjmlcccjaaGreatDoorPg
import Derived.Test.YtjhionjmlcccjaaGreatDoorHpR
namespace Go.Proofs.YtjhionjmlcccjaaGreatDoor.Ev
open Go Go.Proofs
noncomputable def PP4 : Pg := PP3
noncomputable def PK0_13 : Pg := { PP4 with cps := PP4.cps.put 13 [cp0, cp1, cp2, cp3, cp4, cp5, cp6, cp7, cp8, cp9, cp10, cp11, cp12] }
noncomputable def PK0 : Pg := PK0_13
noncomputable def PK1_13 : Pg := { PP4 with cps := PP4.cps.put 13 [cp0, cp1, cp2, cp3, cp4, cp5, cp6, cp7, cp8] }
noncomputable def PK1 : Pg := PK1_13
noncomputable def PK2_13 : Pg := { PP4 with cps := PP4.cps.put 13 [cp0, cp1, cp2, cp13, cp14, cp15, cp16, cp17, cp18, cp19] }
noncomputable def PK2 : Pg := PK2_13
noncomputable def PK3_13 : Pg := { PP4 with cps := PP4.cps.put 13 [cp0, cp1, cp2, cp13, cp14, cp15, cp16, cp17, cp18, cp19] }
noncomputable def PK3 : Pg := PK3_13
end Go.Proofs.YtjhionjmlcccjaaGreatDoor.Ev
