/- Tables of YtecmokfckbfdjaaGreatDoor: each entry is what the program comes to. -/
import Derived.Test.YtecmokfckbfdjaaGreatDoorD1
import Derived.Test.YtecmokfckbfdjaaGreatDoorT1
import Derived.Test.YtecmokfckbfdjaaGreatDoorT12
import Derived.Test.YtecmokfckbfdjaaGreatDoorT13
import Derived.Test.YtecmokfckbfdjaaGreatDoorT14
import Derived.Test.YtecmokfckbfdjaaGreatDoorT15
import Derived.Test.YtecmokfckbfdjaaGreatDoorT3
namespace Go.L.Q
open Go Go.Conc Go.L Go.Proofs
set_option linter.all false
set_option maxRecDepth 100000
-- wayzgoose/kin.check 5
theorem t249 : TabOK (CA prog) prog e249 := entB_ok ca_closed mixed (fs := fs) (tab := [e248, e244, e9, e7, e6]) ⟨t248, t244, t9, t7, t6, trivial⟩ (by kernel_rfl)
-- (*wayzgoose/kin.family).can 39
theorem t261 : TabOK (CA prog) prog e261 := entB_ok ca_closed mixed (fs := fs) (tab := [e260, e259, e258, e257, e256, e255, e254, e253, e252]) ⟨t260, t259, t258, t257, t256, t255, t254, t253, t252, trivial⟩ (by kernel_rfl)
-- (*wayzgoose/kin.family).can 66
theorem t271 : TabOK (CA prog) prog e271 := entB_ok ca_closed mixed (fs := fs) (tab := [e270, e269, e268, e267, e266, e265, e264, e263, e262]) ⟨t270, t269, t268, t267, t266, t265, t264, t263, t262, trivial⟩ (by kernel_rfl)
-- (*wayzgoose/kin.family).can 47
theorem t281 : TabOK (CA prog) prog e281 := entB_ok ca_closed mixed (fs := fs) (tab := [e280, e279, e278, e277, e276, e275, e274, e273, e272]) ⟨t280, t279, t278, t277, t276, t275, t274, t273, t272, trivial⟩ (by kernel_rfl)
-- (*wayzgoose/kin.family).can 106
theorem t292 : TabOK (CA prog) prog e292 := entB_ok ca_closed mixed (fs := fs) (tab := [e291, e290, e289, e288, e287, e286, e285, e284, e283]) ⟨t291, t290, t289, t288, t287, t286, t285, t284, t283, trivial⟩ (by kernel_rfl)
-- (*wayzgoose/kin.family).can 109
theorem t304 : TabOK (CA prog) prog e304 := entB_ok ca_closed mixed (fs := fs) (tab := [e303, e302, e301, e300, e299, e298, e297, e296, e295]) ⟨t303, t302, t301, t300, t299, t298, t297, t296, t295, trivial⟩ (by kernel_rfl)
-- (*wayzgoose/kin.family).can 76
theorem t317 : TabOK (CA prog) prog e317 := entB_ok ca_closed mixed (fs := fs) (tab := [e316, e315, e314, e313, e312, e311, e310, e309, e308]) ⟨t316, t315, t314, t313, t312, t311, t310, t309, t308, trivial⟩ (by kernel_rfl)
-- (*wayzgoose/kin.family).can 59
theorem t327 : TabOK (CA prog) prog e327 := entB_ok ca_closed mixed (fs := fs) (tab := [e326, e325, e324, e323, e322, e321, e320, e319, e318]) ⟨t326, t325, t324, t323, t322, t321, t320, t319, t318, trivial⟩ (by kernel_rfl)
-- (*wayzgoose/kin.family).can 74
theorem t338 : TabOK (CA prog) prog e338 := entB_ok ca_closed mixed (fs := fs) (tab := [e337, e336, e335, e334, e333, e332, e331, e330, e329]) ⟨t337, t336, t335, t334, t333, t332, t331, t330, t329, trivial⟩ (by kernel_rfl)
end Go.L.Q
