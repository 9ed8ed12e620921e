/- The program with calls known. -/
import Derived.Test.YtjhionjmlcccjaaGreatDoorPg
import Derived.Test.YtjhionjmlcccjaaGreatDoorHpF
namespace Go.Proofs.YtjhionjmlcccjaaGreatDoor.Ev
open Go Go.Proofs
noncomputable def PP4 : Pg := PP3
noncomputable def PK0_13 : Pg := { PP4 with cps := PP4.cps.put 13 [cp0, cp1, cp2, cp3, cp4, cp5, cp6, cp7, cp8] }
noncomputable def PK0 : Pg := PK0_13
noncomputable def PK1_13 : Pg := { PP4 with cps := PP4.cps.put 13 [cp0, cp1, cp2, cp3, cp9, cp10, cp11, cp12, cp13] }
noncomputable def PK1 : Pg := PK1_13
noncomputable def PK2_13 : Pg := { PP4 with cps := PP4.cps.put 13 [cp0, cp1, cp2, cp3, cp14, cp15, cp16, cp17, cp18] }
noncomputable def PK2 : Pg := PK2_13
noncomputable def PK3_13 : Pg := { PP4 with cps := PP4.cps.put 13 [cp0, cp1, cp2, cp3, cp19, cp20, cp21, cp22, cp23] }
noncomputable def PK3 : Pg := PK3_13
noncomputable def PK4_13 : Pg := { PP4 with cps := PP4.cps.put 13 [cp0, cp1, cp2, cp3, cp24, cp25, cp26, cp27, cp28] }
noncomputable def PK4 : Pg := PK4_13
noncomputable def PK5_13 : Pg := { PP4 with cps := PP4.cps.put 13 [cp0, cp1, cp29, cp30, cp31, cp32, cp33, cp34, cp35] }
noncomputable def PK5 : Pg := PK5_13
noncomputable def PK6_13 : Pg := { PP4 with cps := PP4.cps.put 13 [cp0, cp1, cp29, cp30, cp36, cp37, cp38, cp39, cp40] }
noncomputable def PK6 : Pg := PK6_13
noncomputable def PK7_13 : Pg := { PP4 with cps := PP4.cps.put 13 [cp0, cp1, cp29, cp30, cp41, cp42, cp43, cp44, cp45] }
noncomputable def PK7 : Pg := PK7_13
noncomputable def PK8_13 : Pg := { PP4 with cps := PP4.cps.put 13 [cp0, cp1, cp29, cp30, cp46, cp47, cp48, cp49, cp50] }
noncomputable def PK8 : Pg := PK8_13
noncomputable def PK9_13 : Pg := { PP4 with cps := PP4.cps.put 13 [cp0, cp1, cp29, cp30, cp51, cp52, cp53, cp54, cp55] }
noncomputable def PK9 : Pg := PK9_13
noncomputable def PK10_13 : Pg := { PP4 with cps := PP4.cps.put 13 [cp0, cp1, cp56, cp57, cp58, cp59, cp60, cp61, cp62] }
noncomputable def PK10 : Pg := PK10_13
noncomputable def PK11_13 : Pg := { PP4 with cps := PP4.cps.put 13 [cp0, cp1, cp56, cp57, cp63, cp64, cp65, cp66, cp67] }
noncomputable def PK11 : Pg := PK11_13
noncomputable def PK12_13 : Pg := { PP4 with cps := PP4.cps.put 13 [cp0, cp1, cp56, cp57, cp68, cp69, cp70, cp71, cp72] }
noncomputable def PK12 : Pg := PK12_13
noncomputable def PK13_13 : Pg := { PP4 with cps := PP4.cps.put 13 [cp0, cp1, cp56, cp57, cp73, cp74, cp75, cp76, cp77] }
noncomputable def PK13 : Pg := PK13_13
noncomputable def PK14_13 : Pg := { PP4 with cps := PP4.cps.put 13 [cp0, cp1, cp56, cp57, cp78, cp79, cp80, cp81, cp82] }
noncomputable def PK14 : Pg := PK14_13
noncomputable def PK15_13 : Pg := { PP4 with cps := PP4.cps.put 13 [cp0, cp1, cp83, cp84, cp85, cp86, cp87, cp88, cp89] }
noncomputable def PK15 : Pg := PK15_13
noncomputable def PK16_13 : Pg := { PP4 with cps := PP4.cps.put 13 [cp0, cp1, cp83, cp84, cp90, cp91, cp92, cp93, cp94] }
noncomputable def PK16 : Pg := PK16_13
noncomputable def PK17_13 : Pg := { PP4 with cps := PP4.cps.put 13 [cp0, cp1, cp83, cp84, cp95, cp96, cp97, cp98, cp99] }
noncomputable def PK17 : Pg := PK17_13
noncomputable def PK18_13 : Pg := { PP4 with cps := PP4.cps.put 13 [cp0, cp1, cp83, cp84, cp100, cp101, cp102, cp103, cp104] }
noncomputable def PK18 : Pg := PK18_13
noncomputable def PK19_13 : Pg := { PP4 with cps := PP4.cps.put 13 [cp0, cp1, cp83, cp84, cp105, cp106, cp107, cp108, cp109] }
noncomputable def PK19 : Pg := PK19_13
noncomputable def PK20_13 : Pg := { PP4 with cps := PP4.cps.put 13 [cp0, cp1, cp110, cp111, cp112, cp113, cp114, cp115, cp116] }
noncomputable def PK20 : Pg := PK20_13
noncomputable def PK21_13 : Pg := { PP4 with cps := PP4.cps.put 13 [cp0, cp1, cp110, cp111, cp117, cp118, cp119, cp120, cp121] }
noncomputable def PK21 : Pg := PK21_13
noncomputable def PK22_13 : Pg := { PP4 with cps := PP4.cps.put 13 [cp0, cp1, cp110, cp111, cp122, cp123, cp124, cp125, cp126] }
noncomputable def PK22 : Pg := PK22_13
noncomputable def PK23_13 : Pg := { PP4 with cps := PP4.cps.put 13 [cp0, cp1, cp110, cp111, cp127, cp128, cp129, cp130, cp131] }
noncomputable def PK23 : Pg := PK23_13
noncomputable def PK24_13 : Pg := { PP4 with cps := PP4.cps.put 13 [cp0, cp1, cp110, cp111, cp132, cp133, cp134, cp135, cp136] }
noncomputable def PK24 : Pg := PK24_13
end Go.Proofs.YtjhionjmlcccjaaGreatDoor.Ev
