/- The program with calls known. -/
import Derived.Test.YtjhionjmlcccjaaGreatDoorPg
import Derived.Test.YtjhionjmlcccjaaGreatDoorHpN
namespace Go.Proofs.YtjhionjmlcccjaaGreatDoor.Ev
open Go Go.Proofs
noncomputable def PP4 : Pg := PP3
noncomputable def PK0 : Pg := PP4
noncomputable def PK1 : Pg := PP4
noncomputable def PK2 : Pg := PP4
noncomputable def PK3 : Pg := PP4
noncomputable def PK4 : Pg := PP4
noncomputable def PK5 : Pg := PP4
noncomputable def PK6 : Pg := PP4
noncomputable def PK7 : Pg := PP4
noncomputable def PK8 : Pg := PP4
noncomputable def PK9 : Pg := PP4
noncomputable def PK10 : Pg := PP4
noncomputable def PK11 : Pg := PP4
noncomputable def PK12 : Pg := PP4
noncomputable def PK13 : Pg := PP4
noncomputable def PK14 : Pg := PP4
end Go.Proofs.YtjhionjmlcccjaaGreatDoor.Ev
