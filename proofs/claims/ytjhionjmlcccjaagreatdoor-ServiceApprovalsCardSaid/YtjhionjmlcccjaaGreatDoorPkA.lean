/- The program with calls known. -/
import Derived.Test.YtjhionjmlcccjaaGreatDoorPg
import Derived.Test.YtjhionjmlcccjaaGreatDoorHpA
namespace Go.Proofs.YtjhionjmlcccjaaGreatDoor.Ev
open Go Go.Proofs
noncomputable def PP4 : Pg := PP3
noncomputable def PK0_13 : Pg := { PP4 with cps := PP4.cps.put 13 [cp0, cp1, cp2, cp3, cp4, cp5] }
noncomputable def PK0 : Pg := PK0_13
noncomputable def PK1_13 : Pg := { PP4 with cps := PP4.cps.put 13 [cp0, cp1, cp2, cp3, cp4, cp6, cp7] }
noncomputable def PK1 : Pg := PK1_13
noncomputable def PK2_13 : Pg := { PP4 with cps := PP4.cps.put 13 [cp0, cp1, cp2, cp3, cp4, cp8, cp9] }
noncomputable def PK2 : Pg := PK2_13
noncomputable def PK3_13 : Pg := { PP4 with cps := PP4.cps.put 13 [cp0, cp1, cp2, cp3, cp10, cp11] }
noncomputable def PK3 : Pg := PK3_13
noncomputable def PK4_13 : Pg := { PP4 with cps := PP4.cps.put 13 [cp0, cp1, cp2, cp3, cp10, cp12, cp13] }
noncomputable def PK4 : Pg := PK4_13
noncomputable def PK5_13 : Pg := { PP4 with cps := PP4.cps.put 13 [cp0, cp1, cp2, cp3, cp10, cp14, cp15] }
noncomputable def PK5 : Pg := PK5_13
noncomputable def PK6_13 : Pg := { PP4 with cps := PP4.cps.put 13 [cp0, cp1, cp2, cp3, cp16, cp17] }
noncomputable def PK6 : Pg := PK6_13
noncomputable def PK7_13 : Pg := { PP4 with cps := PP4.cps.put 13 [cp0, cp1, cp2, cp3, cp16, cp18, cp19] }
noncomputable def PK7 : Pg := PK7_13
noncomputable def PK8_13 : Pg := { PP4 with cps := PP4.cps.put 13 [cp0, cp1, cp2, cp3, cp16, cp20, cp21] }
noncomputable def PK8 : Pg := PK8_13
end Go.Proofs.YtjhionjmlcccjaaGreatDoor.Ev
