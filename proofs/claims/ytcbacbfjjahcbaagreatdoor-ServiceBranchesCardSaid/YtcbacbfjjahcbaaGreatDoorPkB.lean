/- The program with calls known. -/
import Derived.Test.YtcbacbfjjahcbaaGreatDoorPg
import Derived.Test.YtcbacbfjjahcbaaGreatDoorHpB
namespace Go.Proofs.YtcbacbfjjahcbaaGreatDoor.Ev
open Go Go.Proofs
def cl133f : List CP := [cp1, cp4, cp7, cp10, cp15, cp17, cp19, cp21, cp23, cp25, cp27, cp29, cp31, cp33, cp35, cp37]
noncomputable def PL133f : Pg := { PP3 with frs := PP3.frs.put 133 cl133f }
noncomputable def PP4 : Pg := PL133f
noncomputable def PK0_18 : Pg := { PP4 with cps := PP4.cps.put 18 [cp0, cp2, cp3, cp5, cp6, cp8, cp9, cp11, cp12, cp13, cp14, cp16, cp18, cp20, cp22] }
noncomputable def PK0 : Pg := PK0_18
noncomputable def PK1_18 : Pg := { PP4 with cps := PP4.cps.put 18 [cp0, cp2, cp3, cp5, cp6, cp8, cp9, cp11, cp12, cp13, cp14, cp24, cp26, cp28, cp30] }
noncomputable def PK1 : Pg := PK1_18
noncomputable def PK2_18 : Pg := { PP4 with cps := PP4.cps.put 18 [cp0, cp2, cp3, cp5, cp6, cp8, cp9, cp11, cp12, cp13, cp14, cp32, cp34, cp36, cp38] }
noncomputable def PK2 : Pg := PK2_18
end Go.Proofs.YtcbacbfjjahcbaaGreatDoor.Ev
