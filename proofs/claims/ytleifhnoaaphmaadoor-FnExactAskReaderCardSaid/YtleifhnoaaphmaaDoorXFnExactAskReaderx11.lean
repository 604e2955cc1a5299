-- Printed by this session's own program wip/tools/xprint.py, which widens the kit's print. Not trusted: Lean checks it.
import Derived.Test.YtleifhnoaaphmaaDoorXFnExactAskReaderx0
import Derived.Test.YtleifhnoaaphmaaDoorXFnExactAskReaderx2
import Derived.Test.YtleifhnoaaphmaaDoorXFnExactAskReaderx3
import Derived.Test.YtleifhnoaaphmaaDoorXFnExactAskReaderx7
import Derived.Test.YtleifhnoaaphmaaDoorXFnExactAskReaderx9
import Derived.Test.YtleifhnoaaphmaaDoorXFnExactAskReaderx10
namespace Go.Proofs.YtleifhnoaaphmaaDoor.XFnExactAskReader
open List (setIfInBounds_toArray set_cons_zero set_cons_succ)
open Go.RowKit Go.Proofs.YtleifhnoaaphmaaDoorW.PrintWords Go.Proofs.YtleifhnoaaphmaaDoorW.PrintLast Go.Proofs.YtleifhnoaaphmaaDoorW.PrintMore
attribute [local go_sem] max2_int min2_int max_two min_two max_three min_three max_four min_four   -- for this text's walks alone
set_option linter.unusedVariables false
set_option linter.unusedSimpArgs false

/-! ### laws_FnExactAskReader: function 6 -/
mutual
def laws_FnExactAskReader.j0 : Nat → Int → Int → Int → Int → Int → Bool → Int → Int → Int → Int → Int → Int → Int → List (S120) → Int → Int → Int → Int → Int → Int → Int → Int → Int → Int → Int → Int → Int → List (S84) → Int → Int → Int → Int → Int → Int → Int → Int → Int → Int → Int → Int → Int → List (S84) → Int → Int → Int → Int → Int → Int → Int → Int → Int → Int → Int → Int → Int → List (S84) → Int → Int → Int → Int → Int → Int → Option (Bool)
 | 0,_,_,_,_,_,_,_,_,_,_,_,_,_,_,_,_,_,_,_,_,_,_,_,_,_,_,_,_,_,_,_,_,_,_,_,_,_,_,_,_,_,_,_,_,_,_,_,_,_,_,_,_,_,_,_,_,_,_,_,_,_,_ => none
 | k + 1,x1,x2,x3,x11,x14,x52,x375000,x375001,x375002,x375003,x375004,x375005,x375006,x375007,x375008,x375009,x375010,x375011,x375012,x375013,x410000,x410001,x410002,x410003,x410004,x410005,x410006,x410007,x410008,x410009,x410010,x410011,x410012,x410013,x427000,x427001,x427002,x427003,x427004,x427005,x427006,x427007,x427008,x427009,x427010,x427011,x427012,x427013,x445000,x445001,x445002,x445003,x445004,x445005,x445006,x445007,x445008,x445009,x445010,x445011,x445012,x445013 => if x52 = true then (none) else ((laws_toReader.f k x375000 x375001 x375002 x375003 x375004 x375005 x375006 x375007 x375008 x375009 x375010 x375011 x375012 x375013).bind fun bt446 => ((laws_eqReader.f k x427000 x427001 x427002 x427003 x427004 x427005 x427006 x427007 x427008 x427009 x427010 x427011 x427012 x427013 bt446.1 bt446.2.1 bt446.2.2.1 bt446.2.2.2.1 bt446.2.2.2.2.1 bt446.2.2.2.2.2.1 bt446.2.2.2.2.2.2.1 bt446.2.2.2.2.2.2.2.1 bt446.2.2.2.2.2.2.2.2.1 bt446.2.2.2.2.2.2.2.2.2.1 bt446.2.2.2.2.2.2.2.2.2.2.1 bt446.2.2.2.2.2.2.2.2.2.2.2.1 bt446.2.2.2.2.2.2.2.2.2.2.2.2.1 bt446.2.2.2.2.2.2.2.2.2.2.2.2.2).bind fun t462 => (if t462 = true then ((laws_markReader.f k x427000 x427001 x427002 x427003 x427004 x427005 x427006 x427007 x427008 x427009 x427010 x427011 x427012 x427013 1).bind fun bt463 => (if bt463.1 < 0 then (laws_FnExactAskReader.j1 k x1 x2 x3 x11 true x375000 x375001 x375002 x375003 x375004 x375005 x375006 x375007 x375008 x375009 x375010 x375011 x375012 x375013 x410000 x410001 x410002 x410003 x410004 x410005 x410006 x410007 x410008 x410009 x410010 x410011 x410012 x410013 x445000 x445001 x445002 x445003 x445004 x445005 x445006 x445007 x445008 x445009 x445010 x445011 x445012 x445013) else ((laws_eqReader.f k x445000 x445001 x445002 x445003 x445004 x445005 x445006 x445007 x445008 x445009 x445010 x445011 x445012 x445013 x410000 x410001 x410002 x410003 x410004 x410005 x410006 x410007 x410008 x410009 x410010 x410011 x410012 x410013).bind fun t465 => (if t465 = true then (laws_FnExactAskReader.j1 k x1 x2 x3 x11 (x14 != x11) x375000 x375001 x375002 x375003 x375004 x375005 x375006 x375007 x375008 x375009 x375010 x375011 x375012 x375013 x410000 x410001 x410002 x410003 x410004 x410005 x410006 x410007 x410008 x410009 x410010 x410011 x410012 x410013 x445000 x445001 x445002 x445003 x445004 x445005 x445006 x445007 x445008 x445009 x445010 x445011 x445012 x445013) else (laws_FnExactAskReader.j1 k x1 x2 x3 x11 true x375000 x375001 x375002 x375003 x375004 x375005 x375006 x375007 x375008 x375009 x375010 x375011 x375012 x375013 x410000 x410001 x410002 x410003 x410004 x410005 x410006 x410007 x410008 x410009 x410010 x410011 x410012 x410013 x445000 x445001 x445002 x445003 x445004 x445005 x445006 x445007 x445008 x445009 x445010 x445011 x445012 x445013))))) else (none))))
def laws_FnExactAskReader.j1 : Nat → Int → Int → Int → Int → Bool → Int → Int → Int → Int → Int → Int → Int → List (S120) → Int → Int → Int → Int → Int → Int → Int → Int → Int → Int → Int → Int → Int → List (S84) → Int → Int → Int → Int → Int → Int → Int → Int → Int → Int → Int → Int → Int → List (S84) → Int → Int → Int → Int → Int → Int → Option (Bool)
 | 0,_,_,_,_,_,_,_,_,_,_,_,_,_,_,_,_,_,_,_,_,_,_,_,_,_,_,_,_,_,_,_,_,_,_,_,_,_,_,_,_,_,_,_,_,_,_,_ => none
 | k + 1,x1,x2,x3,x11,x73,x375000,x375001,x375002,x375003,x375004,x375005,x375006,x375007,x375008,x375009,x375010,x375011,x375012,x375013,x410000,x410001,x410002,x410003,x410004,x410005,x410006,x410007,x410008,x410009,x410010,x410011,x410012,x410013,x445000,x445001,x445002,x445003,x445004,x445005,x445006,x445007,x445008,x445009,x445010,x445011,x445012,x445013 => if x73 = true then (none) else ((laws_markReader.f k x445000 x445001 x445002 x445003 x445004 x445005 x445006 x445007 x445008 x445009 x445010 x445011 x445012 x445013 1).bind fun bt466 => ((laws_heldReader.f k x445000 x445001 x445002 x445003 x445004 x445005 x445006 bt466.2 x445008 x445009 x445010 x445011 x445012 x445013 1).bind fun t468 => (if t468 < 0 then (none) else (if t468 = bt466.1 then ((laws_toReader.f k x375000 x375001 x375002 x375003 x375004 x375005 x375006 x375007 x375008 x375009 x375010 x375011 x375012 x375013).bind fun bt469 => ((impl_AskReader.f k bt469.1 bt469.2.1 bt469.2.2.1 bt469.2.2.2.1 bt469.2.2.2.2.1 bt469.2.2.2.2.2.1 bt469.2.2.2.2.2.2.1 bt469.2.2.2.2.2.2.2.1 bt469.2.2.2.2.2.2.2.2.1 bt469.2.2.2.2.2.2.2.2.2.1 bt469.2.2.2.2.2.2.2.2.2.2.1 bt469.2.2.2.2.2.2.2.2.2.2.2.1 bt469.2.2.2.2.2.2.2.2.2.2.2.2.1 bt469.2.2.2.2.2.2.2.2.2.2.2.2.2 x1 x2 x3).bind fun bt485 => ((laws_eqReader.f k bt485.1 bt485.2.1 bt485.2.2.1 bt485.2.2.2.1 bt485.2.2.2.2.1 bt485.2.2.2.2.2.1 bt485.2.2.2.2.2.2.1 bt485.2.2.2.2.2.2.2.1 bt485.2.2.2.2.2.2.2.2.1 bt485.2.2.2.2.2.2.2.2.2.1 bt485.2.2.2.2.2.2.2.2.2.2.1 bt485.2.2.2.2.2.2.2.2.2.2.2.1 bt485.2.2.2.2.2.2.2.2.2.2.2.2.1 bt485.2.2.2.2.2.2.2.2.2.2.2.2.2.1 x410000 x410001 x410002 x410003 x410004 x410005 x410006 x410007 x410008 x410009 x410010 x410011 x410012 x410013).bind fun t503 => (if t503 = true then (if bt485.2.2.2.2.2.2.2.2.2.2.2.2.2.2 = x11 then ((laws_heldReader.f k x445000 x445001 x445002 x445003 x445004 x445005 x445006 bt466.2 x445008 x445009 x445010 x445011 x445012 x445013 1).bind fun t504 => (if t504 < 0 then (none) else (if t504 = bt466.1 then (some true) else (none)))) else (none)) else (none))))) else (none)))))
end
def laws_FnExactAskReader.f (k : Nat) (a0_0 : Int) (a0_1 : Int) (a0_2 : Int) (a0_3 : Int) (a0_4 : Int) (a0_5 : Int) (a0_6 : Int) (l0_7 : List (S120)) (a0_8 : Int) (a0_9 : Int) (a0_10 : Int) (a0_11 : Int) (a0_12 : Int) (a0_13 : Int) (a1 : Int) (a2 : Int) (a3 : Int) : Option (Bool) := (laws_szReader.f k a0_0 a0_1 a0_2 a0_3 a0_4 a0_5 a0_6 l0_7 a0_8 a0_9 a0_10 a0_11 a0_12 a0_13 1048576).bind fun t375 => (if t375 < 0 then (some true) else ((laws_toReader.f k a0_0 a0_1 a0_2 a0_3 a0_4 a0_5 a0_6 l0_7 a0_8 a0_9 a0_10 a0_11 a0_12 a0_13).bind fun bt376 => ((spec_AskReader.f k bt376.1 bt376.2.1 bt376.2.2.1 bt376.2.2.2.1 bt376.2.2.2.2.1 bt376.2.2.2.2.2.1 bt376.2.2.2.2.2.2.1 bt376.2.2.2.2.2.2.2.1 bt376.2.2.2.2.2.2.2.2.1 bt376.2.2.2.2.2.2.2.2.2.1 bt376.2.2.2.2.2.2.2.2.2.2.1 bt376.2.2.2.2.2.2.2.2.2.2.2.1 bt376.2.2.2.2.2.2.2.2.2.2.2.2.1 bt376.2.2.2.2.2.2.2.2.2.2.2.2.2 a1 a2 a3).bind fun bt392 => ((laws_toReader.f k a0_0 a0_1 a0_2 a0_3 a0_4 a0_5 a0_6 l0_7 a0_8 a0_9 a0_10 a0_11 a0_12 a0_13).bind fun bt410 => ((impl_AskReader.f k bt410.1 bt410.2.1 bt410.2.2.1 bt410.2.2.2.1 bt410.2.2.2.2.1 bt410.2.2.2.2.2.1 bt410.2.2.2.2.2.2.1 bt410.2.2.2.2.2.2.2.1 bt410.2.2.2.2.2.2.2.2.1 bt410.2.2.2.2.2.2.2.2.2.1 bt410.2.2.2.2.2.2.2.2.2.2.1 bt410.2.2.2.2.2.2.2.2.2.2.2.1 bt410.2.2.2.2.2.2.2.2.2.2.2.2.1 bt410.2.2.2.2.2.2.2.2.2.2.2.2.2 a1 a2 a3).bind fun bt427 => ((laws_eqReader.f k bt427.1 bt427.2.1 bt427.2.2.1 bt427.2.2.2.1 bt427.2.2.2.2.1 bt427.2.2.2.2.2.1 bt427.2.2.2.2.2.2.1 bt427.2.2.2.2.2.2.2.1 bt427.2.2.2.2.2.2.2.2.1 bt427.2.2.2.2.2.2.2.2.2.1 bt427.2.2.2.2.2.2.2.2.2.2.1 bt427.2.2.2.2.2.2.2.2.2.2.2.1 bt427.2.2.2.2.2.2.2.2.2.2.2.2.1 bt427.2.2.2.2.2.2.2.2.2.2.2.2.2.1 bt392.1 bt392.2.1 bt392.2.2.1 bt392.2.2.2.1 bt392.2.2.2.2.1 bt392.2.2.2.2.2.1 bt392.2.2.2.2.2.2.1 bt392.2.2.2.2.2.2.2.1 bt392.2.2.2.2.2.2.2.2.1 bt392.2.2.2.2.2.2.2.2.2.1 bt392.2.2.2.2.2.2.2.2.2.2.1 bt392.2.2.2.2.2.2.2.2.2.2.2.1 bt392.2.2.2.2.2.2.2.2.2.2.2.2.1 bt392.2.2.2.2.2.2.2.2.2.2.2.2.2.1).bind fun t445 => (if t445 = true then (laws_FnExactAskReader.j0 k a1 a2 a3 bt392.2.2.2.2.2.2.2.2.2.2.2.2.2.2 bt427.2.2.2.2.2.2.2.2.2.2.2.2.2.2 (bt427.2.2.2.2.2.2.2.2.2.2.2.2.2.2 != bt392.2.2.2.2.2.2.2.2.2.2.2.2.2.2) a0_0 a0_1 a0_2 a0_3 a0_4 a0_5 a0_6 l0_7 a0_8 a0_9 a0_10 a0_11 a0_12 a0_13 bt392.1 bt392.2.1 bt392.2.2.1 bt392.2.2.2.1 bt392.2.2.2.2.1 bt392.2.2.2.2.2.1 bt392.2.2.2.2.2.2.1 bt392.2.2.2.2.2.2.2.1 bt392.2.2.2.2.2.2.2.2.1 bt392.2.2.2.2.2.2.2.2.2.1 bt392.2.2.2.2.2.2.2.2.2.2.1 bt392.2.2.2.2.2.2.2.2.2.2.2.1 bt392.2.2.2.2.2.2.2.2.2.2.2.2.1 bt392.2.2.2.2.2.2.2.2.2.2.2.2.2.1 bt410.1 bt410.2.1 bt410.2.2.1 bt410.2.2.2.1 bt410.2.2.2.2.1 bt410.2.2.2.2.2.1 bt410.2.2.2.2.2.2.1 bt410.2.2.2.2.2.2.2.1 bt410.2.2.2.2.2.2.2.2.1 bt410.2.2.2.2.2.2.2.2.2.1 bt410.2.2.2.2.2.2.2.2.2.2.1 bt410.2.2.2.2.2.2.2.2.2.2.2.1 bt410.2.2.2.2.2.2.2.2.2.2.2.2.1 bt410.2.2.2.2.2.2.2.2.2.2.2.2.2 bt427.1 bt427.2.1 bt427.2.2.1 bt427.2.2.2.1 bt427.2.2.2.2.1 bt427.2.2.2.2.2.1 bt427.2.2.2.2.2.2.1 bt427.2.2.2.2.2.2.2.1 bt427.2.2.2.2.2.2.2.2.1 bt427.2.2.2.2.2.2.2.2.2.1 bt427.2.2.2.2.2.2.2.2.2.2.1 bt427.2.2.2.2.2.2.2.2.2.2.2.1 bt427.2.2.2.2.2.2.2.2.2.2.2.2.1 bt427.2.2.2.2.2.2.2.2.2.2.2.2.2.1) else (laws_FnExactAskReader.j0 k a1 a2 a3 bt392.2.2.2.2.2.2.2.2.2.2.2.2.2.2 bt427.2.2.2.2.2.2.2.2.2.2.2.2.2.2 true a0_0 a0_1 a0_2 a0_3 a0_4 a0_5 a0_6 l0_7 a0_8 a0_9 a0_10 a0_11 a0_12 a0_13 bt392.1 bt392.2.1 bt392.2.2.1 bt392.2.2.2.1 bt392.2.2.2.2.1 bt392.2.2.2.2.2.1 bt392.2.2.2.2.2.2.1 bt392.2.2.2.2.2.2.2.1 bt392.2.2.2.2.2.2.2.2.1 bt392.2.2.2.2.2.2.2.2.2.1 bt392.2.2.2.2.2.2.2.2.2.2.1 bt392.2.2.2.2.2.2.2.2.2.2.2.1 bt392.2.2.2.2.2.2.2.2.2.2.2.2.1 bt392.2.2.2.2.2.2.2.2.2.2.2.2.2.1 bt410.1 bt410.2.1 bt410.2.2.1 bt410.2.2.2.1 bt410.2.2.2.2.1 bt410.2.2.2.2.2.1 bt410.2.2.2.2.2.2.1 bt410.2.2.2.2.2.2.2.1 bt410.2.2.2.2.2.2.2.2.1 bt410.2.2.2.2.2.2.2.2.2.1 bt410.2.2.2.2.2.2.2.2.2.2.1 bt410.2.2.2.2.2.2.2.2.2.2.2.1 bt410.2.2.2.2.2.2.2.2.2.2.2.2.1 bt410.2.2.2.2.2.2.2.2.2.2.2.2.2 bt427.1 bt427.2.1 bt427.2.2.1 bt427.2.2.2.1 bt427.2.2.2.2.1 bt427.2.2.2.2.2.1 bt427.2.2.2.2.2.2.1 bt427.2.2.2.2.2.2.2.1 bt427.2.2.2.2.2.2.2.2.1 bt427.2.2.2.2.2.2.2.2.2.1 bt427.2.2.2.2.2.2.2.2.2.2.1 bt427.2.2.2.2.2.2.2.2.2.2.2.1 bt427.2.2.2.2.2.2.2.2.2.2.2.2.1 bt427.2.2.2.2.2.2.2.2.2.2.2.2.2.1))))))))
theorem laws_FnExactAskReader.mono_l : ∀ k,(∀ y0 y1 y2 y3 y4 y5 y6 y7 y8 y9 y10 y11 y12 y13 y14 y15 y16 y17 y18 y19 y20 y21 y22 y23 y24 y25 y26 y27 y28 y29 y30 y31 y32 y33 y34 y35 y36 y37 y38 y39 y40 y41 y42 y43 y44 y45 y46 y47 y48 y49 y50 y51 y52 y53 y54 y55 y56 y57 y58 y59 y60 y61,LeO (laws_FnExactAskReader.j0 k y0 y1 y2 y3 y4 y5 y6 y7 y8 y9 y10 y11 y12 y13 y14 y15 y16 y17 y18 y19 y20 y21 y22 y23 y24 y25 y26 y27 y28 y29 y30 y31 y32 y33 y34 y35 y36 y37 y38 y39 y40 y41 y42 y43 y44 y45 y46 y47 y48 y49 y50 y51 y52 y53 y54 y55 y56 y57 y58 y59 y60 y61) (laws_FnExactAskReader.j0 (k + 1) y0 y1 y2 y3 y4 y5 y6 y7 y8 y9 y10 y11 y12 y13 y14 y15 y16 y17 y18 y19 y20 y21 y22 y23 y24 y25 y26 y27 y28 y29 y30 y31 y32 y33 y34 y35 y36 y37 y38 y39 y40 y41 y42 y43 y44 y45 y46 y47 y48 y49 y50 y51 y52 y53 y54 y55 y56 y57 y58 y59 y60 y61)) ∧ (∀ y0 y1 y2 y3 y4 y5 y6 y7 y8 y9 y10 y11 y12 y13 y14 y15 y16 y17 y18 y19 y20 y21 y22 y23 y24 y25 y26 y27 y28 y29 y30 y31 y32 y33 y34 y35 y36 y37 y38 y39 y40 y41 y42 y43 y44 y45 y46,LeO (laws_FnExactAskReader.j1 k y0 y1 y2 y3 y4 y5 y6 y7 y8 y9 y10 y11 y12 y13 y14 y15 y16 y17 y18 y19 y20 y21 y22 y23 y24 y25 y26 y27 y28 y29 y30 y31 y32 y33 y34 y35 y36 y37 y38 y39 y40 y41 y42 y43 y44 y45 y46) (laws_FnExactAskReader.j1 (k + 1) y0 y1 y2 y3 y4 y5 y6 y7 y8 y9 y10 y11 y12 y13 y14 y15 y16 y17 y18 y19 y20 y21 y22 y23 y24 y25 y26 y27 y28 y29 y30 y31 y32 y33 y34 y35 y36 y37 y38 y39 y40 y41 y42 y43 y44 y45 y46))
 | 0 => ⟨fun _ _ _ _ _ _ _ _ _ _ _ _ _ _ _ _ _ _ _ _ _ _ _ _ _ _ _ _ _ _ _ _ _ _ _ _ _ _ _ _ _ _ _ _ _ _ _ _ _ _ _ _ _ _ _ _ _ _ _ _ _ _ r h => by simp [laws_FnExactAskReader.j0] at h,fun _ _ _ _ _ _ _ _ _ _ _ _ _ _ _ _ _ _ _ _ _ _ _ _ _ _ _ _ _ _ _ _ _ _ _ _ _ _ _ _ _ _ _ _ _ _ _ r h => by simp [laws_FnExactAskReader.j1] at h⟩
 | k + 1 => by
  obtain ⟨ih0,ih1⟩ := laws_FnExactAskReader.mono_l k
  refine ⟨?_,?_⟩
  ·intro y0 y1 y2 y3 y4 y5 y6 y7 y8 y9 y10 y11 y12 y13 y14 y15 y16 y17 y18 y19 y20 y21 y22 y23 y24 y25 y26 y27 y28 y29 y30 y31 y32 y33 y34 y35 y36 y37 y38 y39 y40 y41 y42 y43 y44 y45 y46 y47 y48 y49 y50 y51 y52 y53 y54 y55 y56 y57 y58 y59 y60 y61
   unfold laws_FnExactAskReader.j0
   repeat' first
   | (with_reducible exact ih0 _ _ _ _ _ _ _ _ _ _ _ _ _ _ _ _ _ _ _ _ _ _ _ _ _ _ _ _ _ _ _ _ _ _ _ _ _ _ _ _ _ _ _ _ _ _ _ _ _ _ _ _ _ _ _ _ _ _ _ _ _ _)
   | (with_reducible exact ih1 _ _ _ _ _ _ _ _ _ _ _ _ _ _ _ _ _ _ _ _ _ _ _ _ _ _ _ _ _ _ _ _ _ _ _ _ _ _ _ _ _ _ _ _ _ _ _)
   | (with_reducible exact impl_AskReader.mono _ _ _ _ _ _ _ _ _ _ _ _ _ _ _ _ _ _)
   | (with_reducible exact laws_eqReader.mono _ _ _ _ _ _ _ _ _ _ _ _ _ _ _ _ _ _ _ _ _ _ _ _ _ _ _ _ _)
   | (with_reducible exact laws_heldReader.mono _ _ _ _ _ _ _ _ _ _ _ _ _ _ _ _)
   | (with_reducible exact laws_markReader.mono _ _ _ _ _ _ _ _ _ _ _ _ _ _ _ _)
   | (with_reducible exact laws_szReader.mono _ _ _ _ _ _ _ _ _ _ _ _ _ _ _ _)
   | (with_reducible exact laws_toReader.mono _ _ _ _ _ _ _ _ _ _ _ _ _ _ _)
   | (with_reducible exact spec_AskReader.mono _ _ _ _ _ _ _ _ _ _ _ _ _ _ _ _ _ _)
   | (with_reducible exact LeO.refl _)
   | (with_reducible exact LeO.none _)
   | (with_reducible refine LeO.ite ?_ ?_)
   | (with_reducible refine LeO.bind ?_ (fun _ => ?_))
   | exact ih0 _ _ _ _ _ _ _ _ _ _ _ _ _ _ _ _ _ _ _ _ _ _ _ _ _ _ _ _ _ _ _ _ _ _ _ _ _ _ _ _ _ _ _ _ _ _ _ _ _ _ _ _ _ _ _ _ _ _ _ _ _ _
   | exact ih1 _ _ _ _ _ _ _ _ _ _ _ _ _ _ _ _ _ _ _ _ _ _ _ _ _ _ _ _ _ _ _ _ _ _ _ _ _ _ _ _ _ _ _ _ _ _ _
   | exact impl_AskReader.mono _ _ _ _ _ _ _ _ _ _ _ _ _ _ _ _ _ _
   | exact laws_eqReader.mono _ _ _ _ _ _ _ _ _ _ _ _ _ _ _ _ _ _ _ _ _ _ _ _ _ _ _ _ _
   | exact laws_heldReader.mono _ _ _ _ _ _ _ _ _ _ _ _ _ _ _ _
   | exact laws_markReader.mono _ _ _ _ _ _ _ _ _ _ _ _ _ _ _ _
   | exact laws_szReader.mono _ _ _ _ _ _ _ _ _ _ _ _ _ _ _ _
   | exact laws_toReader.mono _ _ _ _ _ _ _ _ _ _ _ _ _ _ _
   | exact spec_AskReader.mono _ _ _ _ _ _ _ _ _ _ _ _ _ _ _ _ _ _
   | exact LeO.none _
   | refine LeO.ite ?_ ?_
   | refine LeO.bind ?_ (fun _ => ?_)
  ·intro y0 y1 y2 y3 y4 y5 y6 y7 y8 y9 y10 y11 y12 y13 y14 y15 y16 y17 y18 y19 y20 y21 y22 y23 y24 y25 y26 y27 y28 y29 y30 y31 y32 y33 y34 y35 y36 y37 y38 y39 y40 y41 y42 y43 y44 y45 y46
   unfold laws_FnExactAskReader.j1
   repeat' first
   | (with_reducible exact ih0 _ _ _ _ _ _ _ _ _ _ _ _ _ _ _ _ _ _ _ _ _ _ _ _ _ _ _ _ _ _ _ _ _ _ _ _ _ _ _ _ _ _ _ _ _ _ _ _ _ _ _ _ _ _ _ _ _ _ _ _ _ _)
   | (with_reducible exact ih1 _ _ _ _ _ _ _ _ _ _ _ _ _ _ _ _ _ _ _ _ _ _ _ _ _ _ _ _ _ _ _ _ _ _ _ _ _ _ _ _ _ _ _ _ _ _ _)
   | (with_reducible exact impl_AskReader.mono _ _ _ _ _ _ _ _ _ _ _ _ _ _ _ _ _ _)
   | (with_reducible exact laws_eqReader.mono _ _ _ _ _ _ _ _ _ _ _ _ _ _ _ _ _ _ _ _ _ _ _ _ _ _ _ _ _)
   | (with_reducible exact laws_heldReader.mono _ _ _ _ _ _ _ _ _ _ _ _ _ _ _ _)
   | (with_reducible exact laws_markReader.mono _ _ _ _ _ _ _ _ _ _ _ _ _ _ _ _)
   | (with_reducible exact laws_szReader.mono _ _ _ _ _ _ _ _ _ _ _ _ _ _ _ _)
   | (with_reducible exact laws_toReader.mono _ _ _ _ _ _ _ _ _ _ _ _ _ _ _)
   | (with_reducible exact spec_AskReader.mono _ _ _ _ _ _ _ _ _ _ _ _ _ _ _ _ _ _)
   | (with_reducible exact LeO.refl _)
   | (with_reducible exact LeO.none _)
   | (with_reducible refine LeO.ite ?_ ?_)
   | (with_reducible refine LeO.bind ?_ (fun _ => ?_))
   | exact ih0 _ _ _ _ _ _ _ _ _ _ _ _ _ _ _ _ _ _ _ _ _ _ _ _ _ _ _ _ _ _ _ _ _ _ _ _ _ _ _ _ _ _ _ _ _ _ _ _ _ _ _ _ _ _ _ _ _ _ _ _ _ _
   | exact ih1 _ _ _ _ _ _ _ _ _ _ _ _ _ _ _ _ _ _ _ _ _ _ _ _ _ _ _ _ _ _ _ _ _ _ _ _ _ _ _ _ _ _ _ _ _ _ _
   | exact impl_AskReader.mono _ _ _ _ _ _ _ _ _ _ _ _ _ _ _ _ _ _
   | exact laws_eqReader.mono _ _ _ _ _ _ _ _ _ _ _ _ _ _ _ _ _ _ _ _ _ _ _ _ _ _ _ _ _
   | exact laws_heldReader.mono _ _ _ _ _ _ _ _ _ _ _ _ _ _ _ _
   | exact laws_markReader.mono _ _ _ _ _ _ _ _ _ _ _ _ _ _ _ _
   | exact laws_szReader.mono _ _ _ _ _ _ _ _ _ _ _ _ _ _ _ _
   | exact laws_toReader.mono _ _ _ _ _ _ _ _ _ _ _ _ _ _ _
   | exact spec_AskReader.mono _ _ _ _ _ _ _ _ _ _ _ _ _ _ _ _ _ _
   | exact LeO.none _
   | refine LeO.ite ?_ ?_
   | refine LeO.bind ?_ (fun _ => ?_)
theorem laws_FnExactAskReader.mono : ∀ a0 a1 a2 a3 a4 a5 a6 a7 a8 a9 a10 a11 a12 a13 a14 a15 a16 k,LeO (laws_FnExactAskReader.f k a0 a1 a2 a3 a4 a5 a6 a7 a8 a9 a10 a11 a12 a13 a14 a15 a16) (laws_FnExactAskReader.f (k + 1) a0 a1 a2 a3 a4 a5 a6 a7 a8 a9 a10 a11 a12 a13 a14 a15 a16) := by
 intro a0 a1 a2 a3 a4 a5 a6 a7 a8 a9 a10 a11 a12 a13 a14 a15 a16 k
 obtain ⟨ih0,ih1⟩ := laws_FnExactAskReader.mono_l k
 unfold laws_FnExactAskReader.f
 repeat' first
   | (with_reducible exact ih0 _ _ _ _ _ _ _ _ _ _ _ _ _ _ _ _ _ _ _ _ _ _ _ _ _ _ _ _ _ _ _ _ _ _ _ _ _ _ _ _ _ _ _ _ _ _ _ _ _ _ _ _ _ _ _ _ _ _ _ _ _ _)
   | (with_reducible exact ih1 _ _ _ _ _ _ _ _ _ _ _ _ _ _ _ _ _ _ _ _ _ _ _ _ _ _ _ _ _ _ _ _ _ _ _ _ _ _ _ _ _ _ _ _ _ _ _)
   | (with_reducible exact impl_AskReader.mono _ _ _ _ _ _ _ _ _ _ _ _ _ _ _ _ _ _)
   | (with_reducible exact laws_eqReader.mono _ _ _ _ _ _ _ _ _ _ _ _ _ _ _ _ _ _ _ _ _ _ _ _ _ _ _ _ _)
   | (with_reducible exact laws_heldReader.mono _ _ _ _ _ _ _ _ _ _ _ _ _ _ _ _)
   | (with_reducible exact laws_markReader.mono _ _ _ _ _ _ _ _ _ _ _ _ _ _ _ _)
   | (with_reducible exact laws_szReader.mono _ _ _ _ _ _ _ _ _ _ _ _ _ _ _ _)
   | (with_reducible exact laws_toReader.mono _ _ _ _ _ _ _ _ _ _ _ _ _ _ _)
   | (with_reducible exact spec_AskReader.mono _ _ _ _ _ _ _ _ _ _ _ _ _ _ _ _ _ _)
   | (with_reducible exact LeO.refl _)
   | (with_reducible exact LeO.none _)
   | (with_reducible refine LeO.ite ?_ ?_)
   | (with_reducible refine LeO.bind ?_ (fun _ => ?_))
   | exact ih0 _ _ _ _ _ _ _ _ _ _ _ _ _ _ _ _ _ _ _ _ _ _ _ _ _ _ _ _ _ _ _ _ _ _ _ _ _ _ _ _ _ _ _ _ _ _ _ _ _ _ _ _ _ _ _ _ _ _ _ _ _ _
   | exact ih1 _ _ _ _ _ _ _ _ _ _ _ _ _ _ _ _ _ _ _ _ _ _ _ _ _ _ _ _ _ _ _ _ _ _ _ _ _ _ _ _ _ _ _ _ _ _ _
   | exact impl_AskReader.mono _ _ _ _ _ _ _ _ _ _ _ _ _ _ _ _ _ _
   | exact laws_eqReader.mono _ _ _ _ _ _ _ _ _ _ _ _ _ _ _ _ _ _ _ _ _ _ _ _ _ _ _ _ _
   | exact laws_heldReader.mono _ _ _ _ _ _ _ _ _ _ _ _ _ _ _ _
   | exact laws_markReader.mono _ _ _ _ _ _ _ _ _ _ _ _ _ _ _ _
   | exact laws_szReader.mono _ _ _ _ _ _ _ _ _ _ _ _ _ _ _ _
   | exact laws_toReader.mono _ _ _ _ _ _ _ _ _ _ _ _ _ _ _
   | exact spec_AskReader.mono _ _ _ _ _ _ _ _ _ _ _ _ _ _ _ _ _ _
   | exact LeO.none _
   | refine LeO.ite ?_ ?_
   | refine LeO.bind ?_ (fun _ => ?_)
/-- What follows a cut. -/
structure CutW (p : Prop) : Prop where
  out : p
set_option maxHeartbeats 8000000 in
set_option maxRecDepth 100000 in
noncomputable def FnExactAskReader_cut1 : PSigma (fun M_ : Prop => CutW M_ → ∀ (k : Nat) (a0_0 : Int) (a0_1 : Int) (a0_2 : Int) (a0_3 : Int) (a0_4 : Int) (a0_5 : Int) (a0_6 : Int) (A0_7 : Option Addr) (c0_7 : Nat) (l0_7 : List (S120)) (a0_8 : Int) (a0_9 : Int) (a0_10 : Int) (a0_11 : Int) (a0_12 : Int) (a0_13 : Int) (a1 : Int) (a2 : Int) (a3 : Int) (r : Bool) (w : World) (hV : Vars w) (hr0_7 : Kd.C k120 w A0_7 l0_7.length l0_7) (hc0_7 : l0_7.length ≤ c0_7) (h : laws_FnExactAskReader.f k a0_0 a0_1 a0_2 a0_3 a0_4 a0_5 a0_6 l0_7 a0_8 a0_9 a0_10 a0_11 a0_12 a0_13 a1 a2 a3 = some r), Calls Tryd.prog 6 #[.agg #[.int .i64 a0_0,.int .i64 a0_1,.int .i64 a0_2,.int .i64 a0_3,.int .i64 a0_4,.int .i64 a0_5,.int .i64 a0_6,.slice A0_7 l0_7.length c0_7,.int .i64 a0_8,.int .i64 a0_9,.int .i64 a0_10,.int .i64 a0_11,.int .i64 a0_12,.int .i64 a0_13],.int .i64 a1,.int .i64 a2,.int .i64 a3] w fun e w' => e = .returned (.bool r) ∧ Below w.heap.size w w') := by
 apply PSigma.mk
 case snd =>
  intro hm_ k a0_0 a0_1 a0_2 a0_3 a0_4 a0_5 a0_6 A0_7 c0_7 l0_7 a0_8 a0_9 a0_10 a0_11 a0_12 a0_13 a1 a2 a3 r w hV hr0_7 hc0_7 h
  have hu56 := Tryd.underlying56
  have hu60 := Tryd.underlying60
  have HR0_7 := Aside0.mk hr0_7
  have HC0_7 := Aside0.mk hc0_7
  clear hr0_7 hc0_7
  have HV := Aside0.mk hV
  clear hV
  have HB := Aside0.mk (Below.refl w.heap.size w)
  have H : ((laws_szReader.f k a0_0 a0_1 a0_2 a0_3 a0_4 a0_5 a0_6 l0_7 a0_8 a0_9 a0_10 a0_11 a0_12 a0_13 1048576).bind fun t375 => (if t375 < 0 then (some true) else ((laws_toReader.f k a0_0 a0_1 a0_2 a0_3 a0_4 a0_5 a0_6 l0_7 a0_8 a0_9 a0_10 a0_11 a0_12 a0_13).bind fun bt376 => ((spec_AskReader.f k bt376.1 bt376.2.1 bt376.2.2.1 bt376.2.2.2.1 bt376.2.2.2.2.1 bt376.2.2.2.2.2.1 bt376.2.2.2.2.2.2.1 bt376.2.2.2.2.2.2.2.1 bt376.2.2.2.2.2.2.2.2.1 bt376.2.2.2.2.2.2.2.2.2.1 bt376.2.2.2.2.2.2.2.2.2.2.1 bt376.2.2.2.2.2.2.2.2.2.2.2.1 bt376.2.2.2.2.2.2.2.2.2.2.2.2.1 bt376.2.2.2.2.2.2.2.2.2.2.2.2.2 a1 a2 a3).bind fun bt392 => ((laws_toReader.f k a0_0 a0_1 a0_2 a0_3 a0_4 a0_5 a0_6 l0_7 a0_8 a0_9 a0_10 a0_11 a0_12 a0_13).bind fun bt410 => ((impl_AskReader.f k bt410.1 bt410.2.1 bt410.2.2.1 bt410.2.2.2.1 bt410.2.2.2.2.1 bt410.2.2.2.2.2.1 bt410.2.2.2.2.2.2.1 bt410.2.2.2.2.2.2.2.1 bt410.2.2.2.2.2.2.2.2.1 bt410.2.2.2.2.2.2.2.2.2.1 bt410.2.2.2.2.2.2.2.2.2.2.1 bt410.2.2.2.2.2.2.2.2.2.2.2.1 bt410.2.2.2.2.2.2.2.2.2.2.2.2.1 bt410.2.2.2.2.2.2.2.2.2.2.2.2.2 a1 a2 a3).bind fun bt427 => ((laws_eqReader.f k bt427.1 bt427.2.1 bt427.2.2.1 bt427.2.2.2.1 bt427.2.2.2.2.1 bt427.2.2.2.2.2.1 bt427.2.2.2.2.2.2.1 bt427.2.2.2.2.2.2.2.1 bt427.2.2.2.2.2.2.2.2.1 bt427.2.2.2.2.2.2.2.2.2.1 bt427.2.2.2.2.2.2.2.2.2.2.1 bt427.2.2.2.2.2.2.2.2.2.2.2.1 bt427.2.2.2.2.2.2.2.2.2.2.2.2.1 bt427.2.2.2.2.2.2.2.2.2.2.2.2.2.1 bt392.1 bt392.2.1 bt392.2.2.1 bt392.2.2.2.1 bt392.2.2.2.2.1 bt392.2.2.2.2.2.1 bt392.2.2.2.2.2.2.1 bt392.2.2.2.2.2.2.2.1 bt392.2.2.2.2.2.2.2.2.1 bt392.2.2.2.2.2.2.2.2.2.1 bt392.2.2.2.2.2.2.2.2.2.2.1 bt392.2.2.2.2.2.2.2.2.2.2.2.1 bt392.2.2.2.2.2.2.2.2.2.2.2.2.1 bt392.2.2.2.2.2.2.2.2.2.2.2.2.2.1).bind fun t445 => (if t445 = true then (laws_FnExactAskReader.j0 k a1 a2 a3 bt392.2.2.2.2.2.2.2.2.2.2.2.2.2.2 bt427.2.2.2.2.2.2.2.2.2.2.2.2.2.2 (bt427.2.2.2.2.2.2.2.2.2.2.2.2.2.2 != bt392.2.2.2.2.2.2.2.2.2.2.2.2.2.2) a0_0 a0_1 a0_2 a0_3 a0_4 a0_5 a0_6 l0_7 a0_8 a0_9 a0_10 a0_11 a0_12 a0_13 bt392.1 bt392.2.1 bt392.2.2.1 bt392.2.2.2.1 bt392.2.2.2.2.1 bt392.2.2.2.2.2.1 bt392.2.2.2.2.2.2.1 bt392.2.2.2.2.2.2.2.1 bt392.2.2.2.2.2.2.2.2.1 bt392.2.2.2.2.2.2.2.2.2.1 bt392.2.2.2.2.2.2.2.2.2.2.1 bt392.2.2.2.2.2.2.2.2.2.2.2.1 bt392.2.2.2.2.2.2.2.2.2.2.2.2.1 bt392.2.2.2.2.2.2.2.2.2.2.2.2.2.1 bt410.1 bt410.2.1 bt410.2.2.1 bt410.2.2.2.1 bt410.2.2.2.2.1 bt410.2.2.2.2.2.1 bt410.2.2.2.2.2.2.1 bt410.2.2.2.2.2.2.2.1 bt410.2.2.2.2.2.2.2.2.1 bt410.2.2.2.2.2.2.2.2.2.1 bt410.2.2.2.2.2.2.2.2.2.2.1 bt410.2.2.2.2.2.2.2.2.2.2.2.1 bt410.2.2.2.2.2.2.2.2.2.2.2.2.1 bt410.2.2.2.2.2.2.2.2.2.2.2.2.2 bt427.1 bt427.2.1 bt427.2.2.1 bt427.2.2.2.1 bt427.2.2.2.2.1 bt427.2.2.2.2.2.1 bt427.2.2.2.2.2.2.1 bt427.2.2.2.2.2.2.2.1 bt427.2.2.2.2.2.2.2.2.1 bt427.2.2.2.2.2.2.2.2.2.1 bt427.2.2.2.2.2.2.2.2.2.2.1 bt427.2.2.2.2.2.2.2.2.2.2.2.1 bt427.2.2.2.2.2.2.2.2.2.2.2.2.1 bt427.2.2.2.2.2.2.2.2.2.2.2.2.2.1) else (laws_FnExactAskReader.j0 k a1 a2 a3 bt392.2.2.2.2.2.2.2.2.2.2.2.2.2.2 bt427.2.2.2.2.2.2.2.2.2.2.2.2.2.2 true a0_0 a0_1 a0_2 a0_3 a0_4 a0_5 a0_6 l0_7 a0_8 a0_9 a0_10 a0_11 a0_12 a0_13 bt392.1 bt392.2.1 bt392.2.2.1 bt392.2.2.2.1 bt392.2.2.2.2.1 bt392.2.2.2.2.2.1 bt392.2.2.2.2.2.2.1 bt392.2.2.2.2.2.2.2.1 bt392.2.2.2.2.2.2.2.2.1 bt392.2.2.2.2.2.2.2.2.2.1 bt392.2.2.2.2.2.2.2.2.2.2.1 bt392.2.2.2.2.2.2.2.2.2.2.2.1 bt392.2.2.2.2.2.2.2.2.2.2.2.2.1 bt392.2.2.2.2.2.2.2.2.2.2.2.2.2.1 bt410.1 bt410.2.1 bt410.2.2.1 bt410.2.2.2.1 bt410.2.2.2.2.1 bt410.2.2.2.2.2.1 bt410.2.2.2.2.2.2.1 bt410.2.2.2.2.2.2.2.1 bt410.2.2.2.2.2.2.2.2.1 bt410.2.2.2.2.2.2.2.2.2.1 bt410.2.2.2.2.2.2.2.2.2.2.1 bt410.2.2.2.2.2.2.2.2.2.2.2.1 bt410.2.2.2.2.2.2.2.2.2.2.2.2.1 bt410.2.2.2.2.2.2.2.2.2.2.2.2.2 bt427.1 bt427.2.1 bt427.2.2.1 bt427.2.2.2.1 bt427.2.2.2.2.1 bt427.2.2.2.2.2.1 bt427.2.2.2.2.2.2.1 bt427.2.2.2.2.2.2.2.1 bt427.2.2.2.2.2.2.2.2.1 bt427.2.2.2.2.2.2.2.2.2.1 bt427.2.2.2.2.2.2.2.2.2.2.1 bt427.2.2.2.2.2.2.2.2.2.2.2.1 bt427.2.2.2.2.2.2.2.2.2.2.2.2.1 bt427.2.2.2.2.2.2.2.2.2.2.2.2.2.1))))))))) = some r := h
  clear h
  replace H := Option.bind_eq_some_iff.mp H
  obtain ⟨t375,A50,H⟩ := H
  try dsimp only at H
  have A5 := Aside0.mk A50
  clear A50
  by_cases c6 : t375 < 0
  ·rw [if_pos c6] at H
   have c6b0 : decide (t375 < 0) = true := decide_eq_true c6
   clear c6
   obtain rfl := Option.some.inj H
   go_enter Tryd.func6,Tryd.ntmps6
   go_wp2_with (first | ((with_reducible refine gate_dst (N:=4) rfl ?_); refine box_event ?hg (N:=4) ?hd (cs := #[.int .i64 a0_0,.int .i64 a0_1,.int .i64 a0_2,.int .i64 a0_3,.int .i64 a0_4,.int .i64 a0_5,.int .i64 a0_6,.slice A0_7 l0_7.length c0_7,.int .i64 a0_8,.int .i64 a0_9,.int .i64 a0_10,.int .i64 a0_11,.int .i64 a0_12,.int .i64 a0_13]) (t:=56) ?hr ?_; (case hd => rfl); (case hg => rfl); (case hr => first | (go_simp; done) | (go_simp; rfl)); intro gb374 hg w7 hbox hb; have n0_ := Aside0.mk (below_step bA hb); have n1_ := Aside0.mk (hbox); have n2_ := Aside0.mk ((by rw [hg]; exact (below_size bA) : w.heap.size ≤ gb374)); have n3_ := Aside0.mk ((by rw [hg]; exact (below_size bA) : w.heap.size ≤ gb374)); clear HB; have HB := n0_; have BK374 := n1_; have GW374 := n2_; have GE374 := n3_; clear n0_ n1_ n2_ n3_; clear hb hbox hg; have hcz8_0 : w7.cell? ⟨gb374,0,none⟩ = some (.int .i64 a0_0) := (blk_cell BK374.out 0).trans rfl; have hcz8_1 : w7.cell? ⟨gb374,1,none⟩ = some (.int .i64 a0_1) := (blk_cell BK374.out 1).trans rfl; have hcz8_2 : w7.cell? ⟨gb374,2,none⟩ = some (.int .i64 a0_2) := (blk_cell BK374.out 2).trans rfl; have hcz8_3 : w7.cell? ⟨gb374,3,none⟩ = some (.int .i64 a0_3) := (blk_cell BK374.out 3).trans rfl; have hcz8_4 : w7.cell? ⟨gb374,4,none⟩ = some (.int .i64 a0_4) := (blk_cell BK374.out 4).trans rfl; have hcz8_5 : w7.cell? ⟨gb374,5,none⟩ = some (.int .i64 a0_5) := (blk_cell BK374.out 5).trans rfl; have hcz8_6 : w7.cell? ⟨gb374,6,none⟩ = some (.int .i64 a0_6) := (blk_cell BK374.out 6).trans rfl; have hcz8_7 : w7.cell? ⟨gb374,7,none⟩ = some (.slice A0_7 l0_7.length c0_7) := (blk_cell BK374.out 7).trans rfl; have hcz8_8 : w7.cell? ⟨gb374,8,none⟩ = some (.int .i64 a0_8) := (blk_cell BK374.out 8).trans rfl; have hcz8_9 : w7.cell? ⟨gb374,9,none⟩ = some (.int .i64 a0_9) := (blk_cell BK374.out 9).trans rfl; have hcz8_10 : w7.cell? ⟨gb374,10,none⟩ = some (.int .i64 a0_10) := (blk_cell BK374.out 10).trans rfl; have hcz8_11 : w7.cell? ⟨gb374,11,none⟩ = some (.int .i64 a0_11) := (blk_cell BK374.out 11).trans rfl; have hcz8_12 : w7.cell? ⟨gb374,12,none⟩ = some (.int .i64 a0_12) := (blk_cell BK374.out 12).trans rfl; have hcz8_13 : w7.cell? ⟨gb374,13,none⟩ = some (.int .i64 a0_13) := (blk_cell BK374.out 13).trans rfl; have hfz8_0 := blk_frozen BK374.out 0; have hfz8_1 := blk_frozen BK374.out 1; have hfz8_2 := blk_frozen BK374.out 2; have hfz8_3 := blk_frozen BK374.out 3; have hfz8_4 := blk_frozen BK374.out 4; have hfz8_5 := blk_frozen BK374.out 5; have hfz8_6 := blk_frozen BK374.out 6; have hfz8_7 := blk_frozen BK374.out 7; have hfz8_8 := blk_frozen BK374.out 8; have hfz8_9 := blk_frozen BK374.out 9; have hfz8_10 := blk_frozen BK374.out 10; have hfz8_11 := blk_frozen BK374.out 11; have hfz8_12 := blk_frozen BK374.out 12; have hfz8_13 := blk_frozen BK374.out 13) | ((with_reducible refine gate_callee (f:=22) rfl ?_); refine goesL_ (some 22) rfl rfl Tryd.func22 (by kernel_rfl) rfl #[.agg #[.int .i64 a0_0,.int .i64 a0_1,.int .i64 a0_2,.int .i64 a0_3,.int .i64 a0_4,.int .i64 a0_5,.int .i64 a0_6,.slice A0_7 l0_7.length c0_7,.int .i64 a0_8,.int .i64 a0_9,.int .i64 a0_10,.int .i64 a0_11,.int .i64 a0_12,.int .i64 a0_13],.int .i64 1048576] rfl mA ?_; (with_reducible refine (laws_szReader.calls k a0_0 a0_1 a0_2 a0_3 a0_4 a0_5 a0_6 _ _ l0_7 a0_8 a0_9 a0_10 a0_11 a0_12 a0_13 1048576 t375 _ ?side1 ?side2 A5.out).mono ?_); (case side1 => repeat (first | exact (Kd.C_below HR0_7.out HB.out) | (with_reducible refine Kd.C_alloc ?_ _) | (with_reducible refine Kd.C_drewN ?_ _) | (with_reducible refine Kd.C_drew ?_))); (case side2 => exact HC0_7.out); rintro e w9 ⟨rfl,hb⟩; refine ⟨_,rfl,?_⟩; have n0_ := Aside0.mk (blk_below (g:=gb374) (o:=.cells #[.int .i64 a0_0,.int .i64 a0_1,.int .i64 a0_2,.int .i64 a0_3,.int .i64 a0_4,.int .i64 a0_5,.int .i64 a0_6,.slice A0_7 l0_7.length c0_7,.int .i64 a0_8,.int .i64 a0_9,.int .i64 a0_10,.int .i64 a0_11,.int .i64 a0_12,.int .i64 a0_13] 56 (0,0)) (kA BK374.out) hb); have n1_ := Aside0.mk (below_step bA hb); clear BK374; clear HB; have BK374 := n0_; have HB := n1_; clear n0_ n1_; (try clear hb); (try clear hb2); (try clear hk); (try clear hi)))
   go_ret
   exact ⟨by first | rfl | (simp [errW_none,errW_some] <;> rfl) | (simp [*,errW_none,errW_some] <;> rfl),bA⟩
  ·rw [if_neg c6] at H
   have c6b0 : decide (t375 < 0) = false := decide_eq_false c6
   clear c6
   replace H := Option.bind_eq_some_iff.mp H
   obtain ⟨⟨t376,t377,t378,t379,t380,t381,t382,t383,t386,t387,t388,t389,t390,t391⟩,A100,H⟩ := H
   try dsimp only at H
   have A10 := Aside0.mk A100
   clear A100
   replace H := Option.bind_eq_some_iff.mp H
   obtain ⟨⟨t392,t393,t394,t395,t396,t397,t398,t399,t402,t403,t404,t405,t406,t407,t408⟩,A110,H⟩ := H
   try dsimp only at H
   have A11 := Aside0.mk A110
   clear A110
   replace H := Option.bind_eq_some_iff.mp H
   obtain ⟨⟨t410,t411,t412,t413,t414,t415,t416,t417,t420,t421,t422,t423,t424,t425⟩,A120,H⟩ := H
   try dsimp only at H
   have A12 := Aside0.mk A120
   clear A120
   replace H := Option.bind_eq_some_iff.mp H
   obtain ⟨⟨t427,t428,t429,t430,t431,t432,t433,t434,t437,t438,t439,t440,t441,t442,t443⟩,A130,H⟩ := H
   try dsimp only at H
   have A13 := Aside0.mk A130
   clear A130
   have HC14 := Aside0.mk H
   clear H
   go_enter Tryd.func6,Tryd.ntmps6
   go_upto_region 8 with (first | ((with_reducible refine gate_dst (N:=4) rfl ?_); refine box_event ?hg (N:=4) ?hd (cs := #[.int .i64 a0_0,.int .i64 a0_1,.int .i64 a0_2,.int .i64 a0_3,.int .i64 a0_4,.int .i64 a0_5,.int .i64 a0_6,.slice A0_7 l0_7.length c0_7,.int .i64 a0_8,.int .i64 a0_9,.int .i64 a0_10,.int .i64 a0_11,.int .i64 a0_12,.int .i64 a0_13]) (t:=56) ?hr ?_; (case hd => rfl); (case hg => rfl); (case hr => first | (go_simp; done) | (go_simp; rfl)); intro gb374 hg w15 hbox hb; have n0_ := Aside0.mk (below_step bA hb); have n1_ := Aside0.mk (hbox); have n2_ := Aside0.mk ((by rw [hg]; exact (below_size bA) : w.heap.size ≤ gb374)); have n3_ := Aside0.mk ((by rw [hg]; exact (below_size bA) : w.heap.size ≤ gb374)); clear HB; have HB := n0_; have BK374 := n1_; have GW374 := n2_; have GE374 := n3_; clear n0_ n1_ n2_ n3_; clear hb hbox hg; have hcz16_0 : w15.cell? ⟨gb374,0,none⟩ = some (.int .i64 a0_0) := (blk_cell BK374.out 0).trans rfl; have hcz16_1 : w15.cell? ⟨gb374,1,none⟩ = some (.int .i64 a0_1) := (blk_cell BK374.out 1).trans rfl; have hcz16_2 : w15.cell? ⟨gb374,2,none⟩ = some (.int .i64 a0_2) := (blk_cell BK374.out 2).trans rfl; have hcz16_3 : w15.cell? ⟨gb374,3,none⟩ = some (.int .i64 a0_3) := (blk_cell BK374.out 3).trans rfl; have hcz16_4 : w15.cell? ⟨gb374,4,none⟩ = some (.int .i64 a0_4) := (blk_cell BK374.out 4).trans rfl; have hcz16_5 : w15.cell? ⟨gb374,5,none⟩ = some (.int .i64 a0_5) := (blk_cell BK374.out 5).trans rfl; have hcz16_6 : w15.cell? ⟨gb374,6,none⟩ = some (.int .i64 a0_6) := (blk_cell BK374.out 6).trans rfl; have hcz16_7 : w15.cell? ⟨gb374,7,none⟩ = some (.slice A0_7 l0_7.length c0_7) := (blk_cell BK374.out 7).trans rfl; have hcz16_8 : w15.cell? ⟨gb374,8,none⟩ = some (.int .i64 a0_8) := (blk_cell BK374.out 8).trans rfl; have hcz16_9 : w15.cell? ⟨gb374,9,none⟩ = some (.int .i64 a0_9) := (blk_cell BK374.out 9).trans rfl; have hcz16_10 : w15.cell? ⟨gb374,10,none⟩ = some (.int .i64 a0_10) := (blk_cell BK374.out 10).trans rfl; have hcz16_11 : w15.cell? ⟨gb374,11,none⟩ = some (.int .i64 a0_11) := (blk_cell BK374.out 11).trans rfl; have hcz16_12 : w15.cell? ⟨gb374,12,none⟩ = some (.int .i64 a0_12) := (blk_cell BK374.out 12).trans rfl; have hcz16_13 : w15.cell? ⟨gb374,13,none⟩ = some (.int .i64 a0_13) := (blk_cell BK374.out 13).trans rfl; have hfz16_0 := blk_frozen BK374.out 0; have hfz16_1 := blk_frozen BK374.out 1; have hfz16_2 := blk_frozen BK374.out 2; have hfz16_3 := blk_frozen BK374.out 3; have hfz16_4 := blk_frozen BK374.out 4; have hfz16_5 := blk_frozen BK374.out 5; have hfz16_6 := blk_frozen BK374.out 6; have hfz16_7 := blk_frozen BK374.out 7; have hfz16_8 := blk_frozen BK374.out 8; have hfz16_9 := blk_frozen BK374.out 9; have hfz16_10 := blk_frozen BK374.out 10; have hfz16_11 := blk_frozen BK374.out 11; have hfz16_12 := blk_frozen BK374.out 12; have hfz16_13 := blk_frozen BK374.out 13) | ((with_reducible refine gate_callee (f:=22) rfl ?_); refine goesL_ (some 22) rfl rfl Tryd.func22 (by kernel_rfl) rfl #[.agg #[.int .i64 a0_0,.int .i64 a0_1,.int .i64 a0_2,.int .i64 a0_3,.int .i64 a0_4,.int .i64 a0_5,.int .i64 a0_6,.slice A0_7 l0_7.length c0_7,.int .i64 a0_8,.int .i64 a0_9,.int .i64 a0_10,.int .i64 a0_11,.int .i64 a0_12,.int .i64 a0_13],.int .i64 1048576] rfl mA ?_; (with_reducible refine (laws_szReader.calls k a0_0 a0_1 a0_2 a0_3 a0_4 a0_5 a0_6 _ _ l0_7 a0_8 a0_9 a0_10 a0_11 a0_12 a0_13 1048576 t375 _ ?side1 ?side2 A5.out).mono ?_); (case side1 => repeat (first | exact (Kd.C_below HR0_7.out HB.out) | (with_reducible refine Kd.C_alloc ?_ _) | (with_reducible refine Kd.C_drewN ?_ _) | (with_reducible refine Kd.C_drew ?_))); (case side2 => exact HC0_7.out); rintro e w17 ⟨rfl,hb⟩; refine ⟨_,rfl,?_⟩; have n0_ := Aside0.mk (blk_below (g:=gb374) (o:=.cells #[.int .i64 a0_0,.int .i64 a0_1,.int .i64 a0_2,.int .i64 a0_3,.int .i64 a0_4,.int .i64 a0_5,.int .i64 a0_6,.slice A0_7 l0_7.length c0_7,.int .i64 a0_8,.int .i64 a0_9,.int .i64 a0_10,.int .i64 a0_11,.int .i64 a0_12,.int .i64 a0_13] 56 (0,0)) (kA BK374.out) hb); have n1_ := Aside0.mk (below_step bA hb); clear BK374; clear HB; have BK374 := n0_; have HB := n1_; clear n0_ n1_; (try clear hb); (try clear hb2); (try clear hk); (try clear hi); have hcz18_0 : w17.cell? ⟨gb374,0,none⟩ = some (.int .i64 a0_0) := (blk_cell BK374.out 0).trans rfl; have hcz18_1 : w17.cell? ⟨gb374,1,none⟩ = some (.int .i64 a0_1) := (blk_cell BK374.out 1).trans rfl; have hcz18_2 : w17.cell? ⟨gb374,2,none⟩ = some (.int .i64 a0_2) := (blk_cell BK374.out 2).trans rfl; have hcz18_3 : w17.cell? ⟨gb374,3,none⟩ = some (.int .i64 a0_3) := (blk_cell BK374.out 3).trans rfl; have hcz18_4 : w17.cell? ⟨gb374,4,none⟩ = some (.int .i64 a0_4) := (blk_cell BK374.out 4).trans rfl; have hcz18_5 : w17.cell? ⟨gb374,5,none⟩ = some (.int .i64 a0_5) := (blk_cell BK374.out 5).trans rfl; have hcz18_6 : w17.cell? ⟨gb374,6,none⟩ = some (.int .i64 a0_6) := (blk_cell BK374.out 6).trans rfl; have hcz18_7 : w17.cell? ⟨gb374,7,none⟩ = some (.slice A0_7 l0_7.length c0_7) := (blk_cell BK374.out 7).trans rfl; have hcz18_8 : w17.cell? ⟨gb374,8,none⟩ = some (.int .i64 a0_8) := (blk_cell BK374.out 8).trans rfl; have hcz18_9 : w17.cell? ⟨gb374,9,none⟩ = some (.int .i64 a0_9) := (blk_cell BK374.out 9).trans rfl; have hcz18_10 : w17.cell? ⟨gb374,10,none⟩ = some (.int .i64 a0_10) := (blk_cell BK374.out 10).trans rfl; have hcz18_11 : w17.cell? ⟨gb374,11,none⟩ = some (.int .i64 a0_11) := (blk_cell BK374.out 11).trans rfl; have hcz18_12 : w17.cell? ⟨gb374,12,none⟩ = some (.int .i64 a0_12) := (blk_cell BK374.out 12).trans rfl; have hcz18_13 : w17.cell? ⟨gb374,13,none⟩ = some (.int .i64 a0_13) := (blk_cell BK374.out 13).trans rfl; have hfz18_0 := blk_frozen BK374.out 0; have hfz18_1 := blk_frozen BK374.out 1; have hfz18_2 := blk_frozen BK374.out 2; have hfz18_3 := blk_frozen BK374.out 3; have hfz18_4 := blk_frozen BK374.out 4; have hfz18_5 := blk_frozen BK374.out 5; have hfz18_6 := blk_frozen BK374.out 6; have hfz18_7 := blk_frozen BK374.out 7; have hfz18_8 := blk_frozen BK374.out 8; have hfz18_9 := blk_frozen BK374.out 9; have hfz18_10 := blk_frozen BK374.out 10; have hfz18_11 := blk_frozen BK374.out 11; have hfz18_12 := blk_frozen BK374.out 12; have hfz18_13 := blk_frozen BK374.out 13) | ((with_reducible refine gate_callee (f:=24) rfl ?_); refine goesL_ (some 27) rfl rfl Tryd.func24 (by kernel_rfl) rfl #[.agg #[.int .i64 a0_0,.int .i64 a0_1,.int .i64 a0_2,.int .i64 a0_3,.int .i64 a0_4,.int .i64 a0_5,.int .i64 a0_6,.slice A0_7 l0_7.length c0_7,.int .i64 a0_8,.int .i64 a0_9,.int .i64 a0_10,.int .i64 a0_11,.int .i64 a0_12,.int .i64 a0_13]] rfl mA ?_; (with_reducible refine (laws_toReader.calls k a0_0 a0_1 a0_2 a0_3 a0_4 a0_5 a0_6 _ _ l0_7 a0_8 a0_9 a0_10 a0_11 a0_12 a0_13 t376 t377 t378 t379 t380 t381 t382 t383 t386 t387 t388 t389 t390 t391 _ ?side1 ?side2 A10.out).mono ?_); (case side1 => repeat (first | exact (Kd.C_below HR0_7.out HB.out) | (with_reducible refine Kd.C_alloc ?_ _) | (with_reducible refine Kd.C_drewN ?_ _) | (with_reducible refine Kd.C_drew ?_))); (case side2 => exact HC0_7.out); rintro e w19 ⟨v384,rfl,ho0,hb⟩; refine ⟨_,rfl,?_⟩; have n0_ := Aside0.mk (Kd.R_lower ho0 (below_size bA)); have n1_ := Aside0.mk (blk_below (g:=gb374) (o:=.cells #[.int .i64 a0_0,.int .i64 a0_1,.int .i64 a0_2,.int .i64 a0_3,.int .i64 a0_4,.int .i64 a0_5,.int .i64 a0_6,.slice A0_7 l0_7.length c0_7,.int .i64 a0_8,.int .i64 a0_9,.int .i64 a0_10,.int .i64 a0_11,.int .i64 a0_12,.int .i64 a0_13] 56 (0,0)) (kA BK374.out) hb); have n2_ := Aside0.mk (below_step bA hb); clear BK374; clear HB; have HO385 := n0_; have BK374 := n1_; have HB := n2_; clear n0_ n1_ n2_; (try clear hb); (try clear hb2); (try clear hk); (try clear hi); (try clear ho0); obtain ⟨Ao20,co20,eo20⟩ := Kd.R_slice HO385.out; subst eo20) | ((with_reducible refine gate_callee (f:=27) rfl ?_); refine goesL_ (some 31) rfl rfl Tryd.func27 (by kernel_rfl) rfl #[.agg #[.int .i64 t376,.int .i64 t377,.int .i64 t378,.int .i64 t379,.int .i64 t380,.int .i64 t381,.int .i64 t382,.slice Ao20 t383.length co20,.int .i64 t386,.int .i64 t387,.int .i64 t388,.int .i64 t389,.int .i64 t390,.int .i64 t391],.int .i64 a1,.int .i64 a2,.int .i64 a3] rfl mA ?_; (with_reducible refine (spec_AskReader.calls k t376 t377 t378 t379 t380 t381 t382 _ _ t383 t386 t387 t388 t389 t390 t391 a1 a2 a3 t392 t393 t394 t395 t396 t397 t398 t399 t402 t403 t404 t405 t406 t407 t408 _ ?side1 ?side2 A11.out).mono ?_); (case side1 => repeat (first | exact (Kd.R_reads' HO385.out).2.2 | (with_reducible refine Kd.C_alloc ?_ _) | (with_reducible refine Kd.C_drewN ?_ _) | (with_reducible refine Kd.C_drew ?_))); (case side2 => exact (Kd.R_reads' HO385.out).2.1); rintro e w21 ⟨v400,rfl,ho0,hb⟩; refine ⟨_,rfl,?_⟩; have n0_ := Aside0.mk (Kd.R_elder' (rA HO385.out) (Kd.R_base ho0) hb); have n1_ := Aside0.mk (Kd.R_lower (Kd.R_new' ho0 (Kd.R_lt (rA HO385.out))) (below_size bA)); have n2_ := Aside0.mk (blk_below (g:=gb374) (o:=.cells #[.int .i64 a0_0,.int .i64 a0_1,.int .i64 a0_2,.int .i64 a0_3,.int .i64 a0_4,.int .i64 a0_5,.int .i64 a0_6,.slice A0_7 l0_7.length c0_7,.int .i64 a0_8,.int .i64 a0_9,.int .i64 a0_10,.int .i64 a0_11,.int .i64 a0_12,.int .i64 a0_13] 56 (0,0)) (kA BK374.out) hb); have n3_ := Aside0.mk (below_step bA hb); clear HO385; clear BK374; clear HB; have HO385 := n0_; have HO401 := n1_; have BK374 := n2_; have HB := n3_; clear n0_ n1_ n2_ n3_; (try clear hb); (try clear hb2); (try clear hk); (try clear hi); (try clear ho0)) | ((with_reducible refine gate_dst (N:=10) rfl ?_); refine box_event ?hg (N:=10) ?hd (cs := #[.int .i64 0,.int .i64 0,.int .i64 0,.int .i64 0,.int .i64 0,.int .i64 0,.int .i64 0,.slice none 0 0,.int .i64 0,.int .i64 0,.int .i64 0,.int .i64 0,.int .i64 0,.int .i64 0]) (t:=60) ?hr ?_; (case hd => rfl); (case hg => rfl); (case hr => first | (go_simp; done) | (go_simp; rfl)); intro gb409 hg w22 hbox hb; have n0_ := Aside0.mk (Kd.R_below (rA HO385.out) hb); have n1_ := Aside0.mk (Kd.R_below (rA HO401.out) hb); have n2_ := Aside0.mk (blk_below (g:=gb374) (o:=.cells #[.int .i64 a0_0,.int .i64 a0_1,.int .i64 a0_2,.int .i64 a0_3,.int .i64 a0_4,.int .i64 a0_5,.int .i64 a0_6,.slice A0_7 l0_7.length c0_7,.int .i64 a0_8,.int .i64 a0_9,.int .i64 a0_10,.int .i64 a0_11,.int .i64 a0_12,.int .i64 a0_13] 56 (0,0)) (kA BK374.out) hb); have n3_ := Aside0.mk (below_step bA hb); have n4_ := Aside0.mk (hbox); have n5_ := Aside0.mk ((by rw [hg]; exact (below_size bA) : w.heap.size ≤ gb409)); have n6_ := Aside0.mk ((by rw [hg]; exact (below_size bA) : w.heap.size ≤ gb409)); have n7_ := Aside0.mk ((by rw [hg]; exact Nat.ne_of_lt (blk_lt (g:=gb374) (o:=.cells #[.int .i64 a0_0,.int .i64 a0_1,.int .i64 a0_2,.int .i64 a0_3,.int .i64 a0_4,.int .i64 a0_5,.int .i64 a0_6,.slice A0_7 l0_7.length c0_7,.int .i64 a0_8,.int .i64 a0_9,.int .i64 a0_10,.int .i64 a0_11,.int .i64 a0_12,.int .i64 a0_13] 56 (0,0)) (kA BK374.out)) : gb374 ≠ gb409)); have n8_ := Aside0.mk ((by rw [hg]; exact Nat.ne_of_gt (blk_lt (g:=gb374) (o:=.cells #[.int .i64 a0_0,.int .i64 a0_1,.int .i64 a0_2,.int .i64 a0_3,.int .i64 a0_4,.int .i64 a0_5,.int .i64 a0_6,.slice A0_7 l0_7.length c0_7,.int .i64 a0_8,.int .i64 a0_9,.int .i64 a0_10,.int .i64 a0_11,.int .i64 a0_12,.int .i64 a0_13] 56 (0,0)) (kA BK374.out)) : gb409 ≠ gb374)); clear HO385; clear HO401; clear BK374; clear HB; have HO385 := n0_; have HO401 := n1_; have BK374 := n2_; have HB := n3_; have BK409 := n4_; have GW409 := n5_; have GE409 := n6_; have NB374_409 := n7_; have NB409_374 := n8_; clear n0_ n1_ n2_ n3_ n4_ n5_ n6_ n7_ n8_; clear hb hbox hg; have hnb23 := NB409_374.out; have hnc23 := NB374_409.out; have hcz24_0 : w22.cell? ⟨gb409,0,none⟩ = some (.int .i64 0) := (blk_cell BK409.out 0).trans rfl; have hcz24_1 : w22.cell? ⟨gb409,1,none⟩ = some (.int .i64 0) := (blk_cell BK409.out 1).trans rfl; have hcz24_2 : w22.cell? ⟨gb409,2,none⟩ = some (.int .i64 0) := (blk_cell BK409.out 2).trans rfl; have hcz24_3 : w22.cell? ⟨gb409,3,none⟩ = some (.int .i64 0) := (blk_cell BK409.out 3).trans rfl; have hcz24_4 : w22.cell? ⟨gb409,4,none⟩ = some (.int .i64 0) := (blk_cell BK409.out 4).trans rfl; have hcz24_5 : w22.cell? ⟨gb409,5,none⟩ = some (.int .i64 0) := (blk_cell BK409.out 5).trans rfl; have hcz24_6 : w22.cell? ⟨gb409,6,none⟩ = some (.int .i64 0) := (blk_cell BK409.out 6).trans rfl; have hcz24_7 : w22.cell? ⟨gb409,7,none⟩ = some (.slice none 0 0) := (blk_cell BK409.out 7).trans rfl; have hcz24_8 : w22.cell? ⟨gb409,8,none⟩ = some (.int .i64 0) := (blk_cell BK409.out 8).trans rfl; have hcz24_9 : w22.cell? ⟨gb409,9,none⟩ = some (.int .i64 0) := (blk_cell BK409.out 9).trans rfl; have hcz24_10 : w22.cell? ⟨gb409,10,none⟩ = some (.int .i64 0) := (blk_cell BK409.out 10).trans rfl; have hcz24_11 : w22.cell? ⟨gb409,11,none⟩ = some (.int .i64 0) := (blk_cell BK409.out 11).trans rfl; have hcz24_12 : w22.cell? ⟨gb409,12,none⟩ = some (.int .i64 0) := (blk_cell BK409.out 12).trans rfl; have hcz24_13 : w22.cell? ⟨gb409,13,none⟩ = some (.int .i64 0) := (blk_cell BK409.out 13).trans rfl; have hfz24_0 := blk_frozen BK409.out 0; have hfz24_1 := blk_frozen BK409.out 1; have hfz24_2 := blk_frozen BK409.out 2; have hfz24_3 := blk_frozen BK409.out 3; have hfz24_4 := blk_frozen BK409.out 4; have hfz24_5 := blk_frozen BK409.out 5; have hfz24_6 := blk_frozen BK409.out 6; have hfz24_7 := blk_frozen BK409.out 7; have hfz24_8 := blk_frozen BK409.out 8; have hfz24_9 := blk_frozen BK409.out 9; have hfz24_10 := blk_frozen BK409.out 10; have hfz24_11 := blk_frozen BK409.out 11; have hfz24_12 := blk_frozen BK409.out 12; have hfz24_13 := blk_frozen BK409.out 13; obtain ⟨Ao25,co25,eo25⟩ := Kd.R_slice HO401.out; subst eo25; have hcz26_0 : w22.cell? ⟨gb374,0,none⟩ = some (.int .i64 a0_0) := (blk_cell BK374.out 0).trans rfl; have hcz26_1 : w22.cell? ⟨gb374,1,none⟩ = some (.int .i64 a0_1) := (blk_cell BK374.out 1).trans rfl; have hcz26_2 : w22.cell? ⟨gb374,2,none⟩ = some (.int .i64 a0_2) := (blk_cell BK374.out 2).trans rfl; have hcz26_3 : w22.cell? ⟨gb374,3,none⟩ = some (.int .i64 a0_3) := (blk_cell BK374.out 3).trans rfl; have hcz26_4 : w22.cell? ⟨gb374,4,none⟩ = some (.int .i64 a0_4) := (blk_cell BK374.out 4).trans rfl; have hcz26_5 : w22.cell? ⟨gb374,5,none⟩ = some (.int .i64 a0_5) := (blk_cell BK374.out 5).trans rfl; have hcz26_6 : w22.cell? ⟨gb374,6,none⟩ = some (.int .i64 a0_6) := (blk_cell BK374.out 6).trans rfl; have hcz26_7 : w22.cell? ⟨gb374,7,none⟩ = some (.slice A0_7 l0_7.length c0_7) := (blk_cell BK374.out 7).trans rfl; have hcz26_8 : w22.cell? ⟨gb374,8,none⟩ = some (.int .i64 a0_8) := (blk_cell BK374.out 8).trans rfl; have hcz26_9 : w22.cell? ⟨gb374,9,none⟩ = some (.int .i64 a0_9) := (blk_cell BK374.out 9).trans rfl; have hcz26_10 : w22.cell? ⟨gb374,10,none⟩ = some (.int .i64 a0_10) := (blk_cell BK374.out 10).trans rfl; have hcz26_11 : w22.cell? ⟨gb374,11,none⟩ = some (.int .i64 a0_11) := (blk_cell BK374.out 11).trans rfl; have hcz26_12 : w22.cell? ⟨gb374,12,none⟩ = some (.int .i64 a0_12) := (blk_cell BK374.out 12).trans rfl; have hcz26_13 : w22.cell? ⟨gb374,13,none⟩ = some (.int .i64 a0_13) := (blk_cell BK374.out 13).trans rfl; have hfz26_0 := blk_frozen BK374.out 0; have hfz26_1 := blk_frozen BK374.out 1; have hfz26_2 := blk_frozen BK374.out 2; have hfz26_3 := blk_frozen BK374.out 3; have hfz26_4 := blk_frozen BK374.out 4; have hfz26_5 := blk_frozen BK374.out 5; have hfz26_6 := blk_frozen BK374.out 6; have hfz26_7 := blk_frozen BK374.out 7; have hfz26_8 := blk_frozen BK374.out 8; have hfz26_9 := blk_frozen BK374.out 9; have hfz26_10 := blk_frozen BK374.out 10; have hfz26_11 := blk_frozen BK374.out 11; have hfz26_12 := blk_frozen BK374.out 12; have hfz26_13 := blk_frozen BK374.out 13) | ((with_reducible refine gate_callee (f:=24) rfl ?_); refine goesL_ (some 35) rfl rfl Tryd.func24 (by kernel_rfl) rfl #[.agg #[.int .i64 a0_0,.int .i64 a0_1,.int .i64 a0_2,.int .i64 a0_3,.int .i64 a0_4,.int .i64 a0_5,.int .i64 a0_6,.slice A0_7 l0_7.length c0_7,.int .i64 a0_8,.int .i64 a0_9,.int .i64 a0_10,.int .i64 a0_11,.int .i64 a0_12,.int .i64 a0_13]] rfl mA ?_; (with_reducible refine (laws_toReader.calls k a0_0 a0_1 a0_2 a0_3 a0_4 a0_5 a0_6 _ _ l0_7 a0_8 a0_9 a0_10 a0_11 a0_12 a0_13 t410 t411 t412 t413 t414 t415 t416 t417 t420 t421 t422 t423 t424 t425 _ ?side1 ?side2 A12.out).mono ?_); (case side1 => exact Kd.C_below HR0_7.out bA); (case side2 => exact HC0_7.out); rintro e w27 ⟨v418,rfl,ho0,hb⟩; refine ⟨_,rfl,?_⟩; have n0_ := Aside0.mk (Kd.R_elder' (by (with_reducible repeat (first | apply Kd.R_alloc | apply Kd.R_drewN | apply Kd.R_drew)); exact (Kd.R_mono (Kd.R_far (p:=⟨gb409,13,none⟩) (Kd.R_far (p:=⟨gb409,12,none⟩) (Kd.R_far (p:=⟨gb409,11,none⟩) (Kd.R_far (p:=⟨gb409,10,none⟩) (Kd.R_far (p:=⟨gb409,9,none⟩) (Kd.R_far (p:=⟨gb409,8,none⟩) (Kd.R_far (p:=⟨gb409,7,none⟩) (Kd.R_far (p:=⟨gb409,6,none⟩) (Kd.R_far (p:=⟨gb409,5,none⟩) (Kd.R_far (p:=⟨gb409,4,none⟩) (Kd.R_far (p:=⟨gb409,3,none⟩) (Kd.R_far (p:=⟨gb409,2,none⟩) (Kd.R_far (p:=⟨gb409,1,none⟩) (Kd.R_far (p:=⟨gb409,0,none⟩) (Kd.R_types HO385.out BK409.out (by decide)) (fun _ hk => hk.2) (.int .i64 t392)) (fun _ hk => hk.2) (.int .i64 t393)) (fun _ hk => hk.2) (.int .i64 t394)) (fun _ hk => hk.2) (.int .i64 t395)) (fun _ hk => hk.2) (.int .i64 t396)) (fun _ hk => hk.2) (.int .i64 t397)) (fun _ hk => hk.2) (.int .i64 t398)) (fun _ hk => hk.2) (.slice Ao25 t399.length co25)) (fun _ hk => hk.2) (.int .i64 t402)) (fun _ hk => hk.2) (.int .i64 t403)) (fun _ hk => hk.2) (.int .i64 t404)) (fun _ hk => hk.2) (.int .i64 t405)) (fun _ hk => hk.2) (.int .i64 t406)) (fun _ hk => hk.2) (.int .i64 t407)) (fun _ h_ => h_.1))) (Kd.R_base ho0) hb); have n1_ := Aside0.mk (Kd.R_elder' (by (with_reducible repeat (first | apply Kd.R_alloc | apply Kd.R_drewN | apply Kd.R_drew)); exact (Kd.R_mono (Kd.R_far (p:=⟨gb409,13,none⟩) (Kd.R_far (p:=⟨gb409,12,none⟩) (Kd.R_far (p:=⟨gb409,11,none⟩) (Kd.R_far (p:=⟨gb409,10,none⟩) (Kd.R_far (p:=⟨gb409,9,none⟩) (Kd.R_far (p:=⟨gb409,8,none⟩) (Kd.R_far (p:=⟨gb409,7,none⟩) (Kd.R_far (p:=⟨gb409,6,none⟩) (Kd.R_far (p:=⟨gb409,5,none⟩) (Kd.R_far (p:=⟨gb409,4,none⟩) (Kd.R_far (p:=⟨gb409,3,none⟩) (Kd.R_far (p:=⟨gb409,2,none⟩) (Kd.R_far (p:=⟨gb409,1,none⟩) (Kd.R_far (p:=⟨gb409,0,none⟩) (Kd.R_types HO401.out BK409.out (by decide)) (fun _ hk => hk.2) (.int .i64 t392)) (fun _ hk => hk.2) (.int .i64 t393)) (fun _ hk => hk.2) (.int .i64 t394)) (fun _ hk => hk.2) (.int .i64 t395)) (fun _ hk => hk.2) (.int .i64 t396)) (fun _ hk => hk.2) (.int .i64 t397)) (fun _ hk => hk.2) (.int .i64 t398)) (fun _ hk => hk.2) (.slice Ao25 t399.length co25)) (fun _ hk => hk.2) (.int .i64 t402)) (fun _ hk => hk.2) (.int .i64 t403)) (fun _ hk => hk.2) (.int .i64 t404)) (fun _ hk => hk.2) (.int .i64 t405)) (fun _ hk => hk.2) (.int .i64 t406)) (fun _ hk => hk.2) (.int .i64 t407)) (fun _ h_ => h_.1))) (Kd.R_base ho0) hb); have n2_ := Aside0.mk (Kd.R_lower (Kd.R_new' (Kd.R_new' ho0 (Kd.R_lt (by (with_reducible repeat (first | apply Kd.R_alloc | apply Kd.R_drewN | apply Kd.R_drew)); exact (Kd.R_mono (Kd.R_far (p:=⟨gb409,13,none⟩) (Kd.R_far (p:=⟨gb409,12,none⟩) (Kd.R_far (p:=⟨gb409,11,none⟩) (Kd.R_far (p:=⟨gb409,10,none⟩) (Kd.R_far (p:=⟨gb409,9,none⟩) (Kd.R_far (p:=⟨gb409,8,none⟩) (Kd.R_far (p:=⟨gb409,7,none⟩) (Kd.R_far (p:=⟨gb409,6,none⟩) (Kd.R_far (p:=⟨gb409,5,none⟩) (Kd.R_far (p:=⟨gb409,4,none⟩) (Kd.R_far (p:=⟨gb409,3,none⟩) (Kd.R_far (p:=⟨gb409,2,none⟩) (Kd.R_far (p:=⟨gb409,1,none⟩) (Kd.R_far (p:=⟨gb409,0,none⟩) (Kd.R_types HO385.out BK409.out (by decide)) (fun _ hk => hk.2) (.int .i64 t392)) (fun _ hk => hk.2) (.int .i64 t393)) (fun _ hk => hk.2) (.int .i64 t394)) (fun _ hk => hk.2) (.int .i64 t395)) (fun _ hk => hk.2) (.int .i64 t396)) (fun _ hk => hk.2) (.int .i64 t397)) (fun _ hk => hk.2) (.int .i64 t398)) (fun _ hk => hk.2) (.slice Ao25 t399.length co25)) (fun _ hk => hk.2) (.int .i64 t402)) (fun _ hk => hk.2) (.int .i64 t403)) (fun _ hk => hk.2) (.int .i64 t404)) (fun _ hk => hk.2) (.int .i64 t405)) (fun _ hk => hk.2) (.int .i64 t406)) (fun _ hk => hk.2) (.int .i64 t407)) (fun _ h_ => h_.1))))) (Kd.R_lt (by (with_reducible repeat (first | apply Kd.R_alloc | apply Kd.R_drewN | apply Kd.R_drew)); exact (Kd.R_mono (Kd.R_far (p:=⟨gb409,13,none⟩) (Kd.R_far (p:=⟨gb409,12,none⟩) (Kd.R_far (p:=⟨gb409,11,none⟩) (Kd.R_far (p:=⟨gb409,10,none⟩) (Kd.R_far (p:=⟨gb409,9,none⟩) (Kd.R_far (p:=⟨gb409,8,none⟩) (Kd.R_far (p:=⟨gb409,7,none⟩) (Kd.R_far (p:=⟨gb409,6,none⟩) (Kd.R_far (p:=⟨gb409,5,none⟩) (Kd.R_far (p:=⟨gb409,4,none⟩) (Kd.R_far (p:=⟨gb409,3,none⟩) (Kd.R_far (p:=⟨gb409,2,none⟩) (Kd.R_far (p:=⟨gb409,1,none⟩) (Kd.R_far (p:=⟨gb409,0,none⟩) (Kd.R_types HO401.out BK409.out (by decide)) (fun _ hk => hk.2) (.int .i64 t392)) (fun _ hk => hk.2) (.int .i64 t393)) (fun _ hk => hk.2) (.int .i64 t394)) (fun _ hk => hk.2) (.int .i64 t395)) (fun _ hk => hk.2) (.int .i64 t396)) (fun _ hk => hk.2) (.int .i64 t397)) (fun _ hk => hk.2) (.int .i64 t398)) (fun _ hk => hk.2) (.slice Ao25 t399.length co25)) (fun _ hk => hk.2) (.int .i64 t402)) (fun _ hk => hk.2) (.int .i64 t403)) (fun _ hk => hk.2) (.int .i64 t404)) (fun _ hk => hk.2) (.int .i64 t405)) (fun _ hk => hk.2) (.int .i64 t406)) (fun _ hk => hk.2) (.int .i64 t407)) (fun _ h_ => h_.1))))) (below_size bA)); have n3_ := Aside0.mk (blk_below (g:=gb374) (o:=.cells #[.int .i64 a0_0,.int .i64 a0_1,.int .i64 a0_2,.int .i64 a0_3,.int .i64 a0_4,.int .i64 a0_5,.int .i64 a0_6,.slice A0_7 l0_7.length c0_7,.int .i64 a0_8,.int .i64 a0_9,.int .i64 a0_10,.int .i64 a0_11,.int .i64 a0_12,.int .i64 a0_13] 56 (0,0)) (kF BK374.out) hb); have n4_ := Aside0.mk (blk_below (g:=gb409) (o:=.cells #[.int .i64 t392,.int .i64 t393,.int .i64 t394,.int .i64 t395,.int .i64 t396,.int .i64 t397,.int .i64 t398,.slice Ao25 t399.length co25,.int .i64 t402,.int .i64 t403,.int .i64 t404,.int .i64 t405,.int .i64 t406,.int .i64 t407] 60 (0,0)) (by (with_reducible repeat (first | refine blk_drewN ?_ _ | refine blk_drew ?_ | refine blk_alloc ?_ _)); refine blk_put (cs := #[.int .i64 t392,.int .i64 t393,.int .i64 t394,.int .i64 t395,.int .i64 t396,.int .i64 t397,.int .i64 t398,.slice Ao25 t399.length co25,.int .i64 t402,.int .i64 t403,.int .i64 t404,.int .i64 t405,.int .i64 t406,.int .i64 0]) ?_ 13 _ rfl; (with_reducible repeat (first | refine blk_drewN ?_ _ | refine blk_drew ?_ | refine blk_alloc ?_ _)); refine blk_put (cs := #[.int .i64 t392,.int .i64 t393,.int .i64 t394,.int .i64 t395,.int .i64 t396,.int .i64 t397,.int .i64 t398,.slice Ao25 t399.length co25,.int .i64 t402,.int .i64 t403,.int .i64 t404,.int .i64 t405,.int .i64 0,.int .i64 0]) ?_ 12 _ rfl; (with_reducible repeat (first | refine blk_drewN ?_ _ | refine blk_drew ?_ | refine blk_alloc ?_ _)); refine blk_put (cs := #[.int .i64 t392,.int .i64 t393,.int .i64 t394,.int .i64 t395,.int .i64 t396,.int .i64 t397,.int .i64 t398,.slice Ao25 t399.length co25,.int .i64 t402,.int .i64 t403,.int .i64 t404,.int .i64 0,.int .i64 0,.int .i64 0]) ?_ 11 _ rfl; (with_reducible repeat (first | refine blk_drewN ?_ _ | refine blk_drew ?_ | refine blk_alloc ?_ _)); refine blk_put (cs := #[.int .i64 t392,.int .i64 t393,.int .i64 t394,.int .i64 t395,.int .i64 t396,.int .i64 t397,.int .i64 t398,.slice Ao25 t399.length co25,.int .i64 t402,.int .i64 t403,.int .i64 0,.int .i64 0,.int .i64 0,.int .i64 0]) ?_ 10 _ rfl; (with_reducible repeat (first | refine blk_drewN ?_ _ | refine blk_drew ?_ | refine blk_alloc ?_ _)); refine blk_put (cs := #[.int .i64 t392,.int .i64 t393,.int .i64 t394,.int .i64 t395,.int .i64 t396,.int .i64 t397,.int .i64 t398,.slice Ao25 t399.length co25,.int .i64 t402,.int .i64 0,.int .i64 0,.int .i64 0,.int .i64 0,.int .i64 0]) ?_ 9 _ rfl; (with_reducible repeat (first | refine blk_drewN ?_ _ | refine blk_drew ?_ | refine blk_alloc ?_ _)); refine blk_put (cs := #[.int .i64 t392,.int .i64 t393,.int .i64 t394,.int .i64 t395,.int .i64 t396,.int .i64 t397,.int .i64 t398,.slice Ao25 t399.length co25,.int .i64 0,.int .i64 0,.int .i64 0,.int .i64 0,.int .i64 0,.int .i64 0]) ?_ 8 _ rfl; (with_reducible repeat (first | refine blk_drewN ?_ _ | refine blk_drew ?_ | refine blk_alloc ?_ _)); refine blk_put (cs := #[.int .i64 t392,.int .i64 t393,.int .i64 t394,.int .i64 t395,.int .i64 t396,.int .i64 t397,.int .i64 t398,.slice none 0 0,.int .i64 0,.int .i64 0,.int .i64 0,.int .i64 0,.int .i64 0,.int .i64 0]) ?_ 7 _ rfl; (with_reducible repeat (first | refine blk_drewN ?_ _ | refine blk_drew ?_ | refine blk_alloc ?_ _)); refine blk_put (cs := #[.int .i64 t392,.int .i64 t393,.int .i64 t394,.int .i64 t395,.int .i64 t396,.int .i64 t397,.int .i64 0,.slice none 0 0,.int .i64 0,.int .i64 0,.int .i64 0,.int .i64 0,.int .i64 0,.int .i64 0]) ?_ 6 _ rfl; (with_reducible repeat (first | refine blk_drewN ?_ _ | refine blk_drew ?_ | refine blk_alloc ?_ _)); refine blk_put (cs := #[.int .i64 t392,.int .i64 t393,.int .i64 t394,.int .i64 t395,.int .i64 t396,.int .i64 0,.int .i64 0,.slice none 0 0,.int .i64 0,.int .i64 0,.int .i64 0,.int .i64 0,.int .i64 0,.int .i64 0]) ?_ 5 _ rfl; (with_reducible repeat (first | refine blk_drewN ?_ _ | refine blk_drew ?_ | refine blk_alloc ?_ _)); refine blk_put (cs := #[.int .i64 t392,.int .i64 t393,.int .i64 t394,.int .i64 t395,.int .i64 0,.int .i64 0,.int .i64 0,.slice none 0 0,.int .i64 0,.int .i64 0,.int .i64 0,.int .i64 0,.int .i64 0,.int .i64 0]) ?_ 4 _ rfl; (with_reducible repeat (first | refine blk_drewN ?_ _ | refine blk_drew ?_ | refine blk_alloc ?_ _)); refine blk_put (cs := #[.int .i64 t392,.int .i64 t393,.int .i64 t394,.int .i64 0,.int .i64 0,.int .i64 0,.int .i64 0,.slice none 0 0,.int .i64 0,.int .i64 0,.int .i64 0,.int .i64 0,.int .i64 0,.int .i64 0]) ?_ 3 _ rfl; (with_reducible repeat (first | refine blk_drewN ?_ _ | refine blk_drew ?_ | refine blk_alloc ?_ _)); refine blk_put (cs := #[.int .i64 t392,.int .i64 t393,.int .i64 0,.int .i64 0,.int .i64 0,.int .i64 0,.int .i64 0,.slice none 0 0,.int .i64 0,.int .i64 0,.int .i64 0,.int .i64 0,.int .i64 0,.int .i64 0]) ?_ 2 _ rfl; (with_reducible repeat (first | refine blk_drewN ?_ _ | refine blk_drew ?_ | refine blk_alloc ?_ _)); refine blk_put (cs := #[.int .i64 t392,.int .i64 0,.int .i64 0,.int .i64 0,.int .i64 0,.int .i64 0,.int .i64 0,.slice none 0 0,.int .i64 0,.int .i64 0,.int .i64 0,.int .i64 0,.int .i64 0,.int .i64 0]) ?_ 1 _ rfl; (with_reducible repeat (first | refine blk_drewN ?_ _ | refine blk_drew ?_ | refine blk_alloc ?_ _)); refine blk_put (cs := #[.int .i64 0,.int .i64 0,.int .i64 0,.int .i64 0,.int .i64 0,.int .i64 0,.int .i64 0,.slice none 0 0,.int .i64 0,.int .i64 0,.int .i64 0,.int .i64 0,.int .i64 0,.int .i64 0]) ?_ 0 _ rfl; (with_reducible repeat (first | refine blk_drewN ?_ _ | refine blk_drew ?_ | refine blk_alloc ?_ _)); exact BK409.out) hb); have n5_ := Aside0.mk (below_step bA hb); clear HO385; clear HO401; clear BK374; clear BK409; clear HB; have HO385 := n0_; have HO401 := n1_; have HO419 := n2_; have BK374 := n3_; have BK409 := n4_; have HB := n5_; clear n0_ n1_ n2_ n3_ n4_ n5_; (try clear hb); (try clear hb2); (try clear hk); (try clear hi); (try clear ho0)) | ((with_reducible refine gate_dst (N:=12) rfl ?_); refine box_event ?hg (N:=12) ?hd (cs := #[.int .i64 0,.int .i64 0,.int .i64 0,.int .i64 0,.int .i64 0,.int .i64 0,.int .i64 0,.slice none 0 0,.int .i64 0,.int .i64 0,.int .i64 0,.int .i64 0,.int .i64 0,.int .i64 0]) (t:=60) ?hr ?_; (case hd => rfl); (case hg => rfl); (case hr => first | (go_simp; done) | (go_simp; rfl)); intro gb426 hg w28 hbox hb; have n0_ := Aside0.mk (Kd.R_below (rA HO385.out) hb); have n1_ := Aside0.mk (Kd.R_below (rA HO401.out) hb); have n2_ := Aside0.mk (Kd.R_below (rA HO419.out) hb); have n3_ := Aside0.mk (blk_below (g:=gb374) (o:=.cells #[.int .i64 a0_0,.int .i64 a0_1,.int .i64 a0_2,.int .i64 a0_3,.int .i64 a0_4,.int .i64 a0_5,.int .i64 a0_6,.slice A0_7 l0_7.length c0_7,.int .i64 a0_8,.int .i64 a0_9,.int .i64 a0_10,.int .i64 a0_11,.int .i64 a0_12,.int .i64 a0_13] 56 (0,0)) (kA BK374.out) hb); have n4_ := Aside0.mk (blk_below (g:=gb409) (o:=.cells #[.int .i64 t392,.int .i64 t393,.int .i64 t394,.int .i64 t395,.int .i64 t396,.int .i64 t397,.int .i64 t398,.slice Ao25 t399.length co25,.int .i64 t402,.int .i64 t403,.int .i64 t404,.int .i64 t405,.int .i64 t406,.int .i64 t407] 60 (0,0)) (kA BK409.out) hb); have n5_ := Aside0.mk (below_step bA hb); have n6_ := Aside0.mk (hbox); have n7_ := Aside0.mk ((by rw [hg]; exact (below_size bA) : w.heap.size ≤ gb426)); have n8_ := Aside0.mk ((by rw [hg]; exact (below_size bA) : w.heap.size ≤ gb426)); have n9_ := Aside0.mk ((by rw [hg]; exact Nat.ne_of_lt (blk_lt (g:=gb374) (o:=.cells #[.int .i64 a0_0,.int .i64 a0_1,.int .i64 a0_2,.int .i64 a0_3,.int .i64 a0_4,.int .i64 a0_5,.int .i64 a0_6,.slice A0_7 l0_7.length c0_7,.int .i64 a0_8,.int .i64 a0_9,.int .i64 a0_10,.int .i64 a0_11,.int .i64 a0_12,.int .i64 a0_13] 56 (0,0)) (kA BK374.out)) : gb374 ≠ gb426)); have n10_ := Aside0.mk ((by rw [hg]; exact Nat.ne_of_gt (blk_lt (g:=gb374) (o:=.cells #[.int .i64 a0_0,.int .i64 a0_1,.int .i64 a0_2,.int .i64 a0_3,.int .i64 a0_4,.int .i64 a0_5,.int .i64 a0_6,.slice A0_7 l0_7.length c0_7,.int .i64 a0_8,.int .i64 a0_9,.int .i64 a0_10,.int .i64 a0_11,.int .i64 a0_12,.int .i64 a0_13] 56 (0,0)) (kA BK374.out)) : gb426 ≠ gb374)); have n11_ := Aside0.mk ((by rw [hg]; exact Nat.ne_of_lt (blk_lt (g:=gb409) (o:=.cells #[.int .i64 t392,.int .i64 t393,.int .i64 t394,.int .i64 t395,.int .i64 t396,.int .i64 t397,.int .i64 t398,.slice Ao25 t399.length co25,.int .i64 t402,.int .i64 t403,.int .i64 t404,.int .i64 t405,.int .i64 t406,.int .i64 t407] 60 (0,0)) (kA BK409.out)) : gb409 ≠ gb426)); have n12_ := Aside0.mk ((by rw [hg]; exact Nat.ne_of_gt (blk_lt (g:=gb409) (o:=.cells #[.int .i64 t392,.int .i64 t393,.int .i64 t394,.int .i64 t395,.int .i64 t396,.int .i64 t397,.int .i64 t398,.slice Ao25 t399.length co25,.int .i64 t402,.int .i64 t403,.int .i64 t404,.int .i64 t405,.int .i64 t406,.int .i64 t407] 60 (0,0)) (kA BK409.out)) : gb426 ≠ gb409)); clear HO385; clear HO401; clear HO419; clear BK374; clear BK409; clear HB; have HO385 := n0_; have HO401 := n1_; have HO419 := n2_; have BK374 := n3_; have BK409 := n4_; have HB := n5_; have BK426 := n6_; have GW426 := n7_; have GE426 := n8_; have NB374_426 := n9_; have NB426_374 := n10_; have NB409_426 := n11_; have NB426_409 := n12_; clear n0_ n1_ n2_ n3_ n4_ n5_ n6_ n7_ n8_ n9_ n10_ n11_ n12_; clear hb hbox hg; have hnb29 := NB426_374.out; have hnc29 := NB374_426.out; have hnb30 := NB426_409.out; have hnc30 := NB409_426.out; have hcz31_0 : w28.cell? ⟨gb426,0,none⟩ = some (.int .i64 0) := (blk_cell BK426.out 0).trans rfl; have hcz31_1 : w28.cell? ⟨gb426,1,none⟩ = some (.int .i64 0) := (blk_cell BK426.out 1).trans rfl; have hcz31_2 : w28.cell? ⟨gb426,2,none⟩ = some (.int .i64 0) := (blk_cell BK426.out 2).trans rfl; have hcz31_3 : w28.cell? ⟨gb426,3,none⟩ = some (.int .i64 0) := (blk_cell BK426.out 3).trans rfl; have hcz31_4 : w28.cell? ⟨gb426,4,none⟩ = some (.int .i64 0) := (blk_cell BK426.out 4).trans rfl; have hcz31_5 : w28.cell? ⟨gb426,5,none⟩ = some (.int .i64 0) := (blk_cell BK426.out 5).trans rfl; have hcz31_6 : w28.cell? ⟨gb426,6,none⟩ = some (.int .i64 0) := (blk_cell BK426.out 6).trans rfl; have hcz31_7 : w28.cell? ⟨gb426,7,none⟩ = some (.slice none 0 0) := (blk_cell BK426.out 7).trans rfl; have hcz31_8 : w28.cell? ⟨gb426,8,none⟩ = some (.int .i64 0) := (blk_cell BK426.out 8).trans rfl; have hcz31_9 : w28.cell? ⟨gb426,9,none⟩ = some (.int .i64 0) := (blk_cell BK426.out 9).trans rfl; have hcz31_10 : w28.cell? ⟨gb426,10,none⟩ = some (.int .i64 0) := (blk_cell BK426.out 10).trans rfl; have hcz31_11 : w28.cell? ⟨gb426,11,none⟩ = some (.int .i64 0) := (blk_cell BK426.out 11).trans rfl; have hcz31_12 : w28.cell? ⟨gb426,12,none⟩ = some (.int .i64 0) := (blk_cell BK426.out 12).trans rfl; have hcz31_13 : w28.cell? ⟨gb426,13,none⟩ = some (.int .i64 0) := (blk_cell BK426.out 13).trans rfl; have hfz31_0 := blk_frozen BK426.out 0; have hfz31_1 := blk_frozen BK426.out 1; have hfz31_2 := blk_frozen BK426.out 2; have hfz31_3 := blk_frozen BK426.out 3; have hfz31_4 := blk_frozen BK426.out 4; have hfz31_5 := blk_frozen BK426.out 5; have hfz31_6 := blk_frozen BK426.out 6; have hfz31_7 := blk_frozen BK426.out 7; have hfz31_8 := blk_frozen BK426.out 8; have hfz31_9 := blk_frozen BK426.out 9; have hfz31_10 := blk_frozen BK426.out 10; have hfz31_11 := blk_frozen BK426.out 11; have hfz31_12 := blk_frozen BK426.out 12; have hfz31_13 := blk_frozen BK426.out 13; obtain ⟨Ao32,co32,eo32⟩ := Kd.R_slice HO419.out; subst eo32) | ((with_reducible refine gate_callee (f:=28) rfl ?_); refine goesL_ (some 41) rfl rfl Tryd.func28 (by kernel_rfl) rfl #[.agg #[.int .i64 t410,.int .i64 t411,.int .i64 t412,.int .i64 t413,.int .i64 t414,.int .i64 t415,.int .i64 t416,.slice Ao32 t417.length co32,.int .i64 t420,.int .i64 t421,.int .i64 t422,.int .i64 t423,.int .i64 t424,.int .i64 t425],.int .i64 a1,.int .i64 a2,.int .i64 a3] rfl mA ?_; (with_reducible refine (impl_AskReader.calls k t410 t411 t412 t413 t414 t415 t416 _ _ t417 t420 t421 t422 t423 t424 t425 a1 a2 a3 t427 t428 t429 t430 t431 t432 t433 t434 t437 t438 t439 t440 t441 t442 t443 _ ?side1 ?side2 ?side3 A13.out).mono ?_); (case side1 => exact HV.out.below bA); (case side2 => refine (Kd.R_reads' (e:=84) (base := w.heap.size) (ok := fun k_ => ((True ∧ some k_ ≠ (.slice Ao20 t383.length co20 : Value).ownBlock) ∧ some k_ ≠ (.slice Ao25 t399.length co25 : Value).ownBlock)) (n:=t417.length) (c:=co32) ?_).2.2; exact (by (with_reducible repeat (first | apply Kd.R_alloc | apply Kd.R_drewN | apply Kd.R_drew)); exact (Kd.R_mono (Kd.R_far (p:=⟨gb426,13,none⟩) (Kd.R_far (p:=⟨gb426,12,none⟩) (Kd.R_far (p:=⟨gb426,11,none⟩) (Kd.R_far (p:=⟨gb426,10,none⟩) (Kd.R_far (p:=⟨gb426,9,none⟩) (Kd.R_far (p:=⟨gb426,8,none⟩) (Kd.R_far (p:=⟨gb426,7,none⟩) (Kd.R_far (p:=⟨gb426,6,none⟩) (Kd.R_far (p:=⟨gb426,5,none⟩) (Kd.R_far (p:=⟨gb426,4,none⟩) (Kd.R_far (p:=⟨gb426,3,none⟩) (Kd.R_far (p:=⟨gb426,2,none⟩) (Kd.R_far (p:=⟨gb426,1,none⟩) (Kd.R_far (p:=⟨gb426,0,none⟩) (Kd.R_types HO419.out BK426.out (by decide)) (fun _ hk => hk.2) (.int .i64 t410)) (fun _ hk => hk.2) (.int .i64 t411)) (fun _ hk => hk.2) (.int .i64 t412)) (fun _ hk => hk.2) (.int .i64 t413)) (fun _ hk => hk.2) (.int .i64 t414)) (fun _ hk => hk.2) (.int .i64 t415)) (fun _ hk => hk.2) (.int .i64 t416)) (fun _ hk => hk.2) (.slice Ao32 t417.length co32)) (fun _ hk => hk.2) (.int .i64 t420)) (fun _ hk => hk.2) (.int .i64 t421)) (fun _ hk => hk.2) (.int .i64 t422)) (fun _ hk => hk.2) (.int .i64 t423)) (fun _ hk => hk.2) (.int .i64 t424)) (fun _ hk => hk.2) (.int .i64 t425)) (fun _ h_ => h_.1)))); (case side3 => exact (Kd.R_reads' HO419.out).2.1); rintro e w33 ⟨v435,rfl,ho0,hb⟩; refine ⟨_,rfl,?_⟩; have n0_ := Aside0.mk (Kd.R_elder' (by (with_reducible repeat (first | apply Kd.R_alloc | apply Kd.R_drewN | apply Kd.R_drew)); exact (Kd.R_mono (Kd.R_far (p:=⟨gb426,13,none⟩) (Kd.R_far (p:=⟨gb426,12,none⟩) (Kd.R_far (p:=⟨gb426,11,none⟩) (Kd.R_far (p:=⟨gb426,10,none⟩) (Kd.R_far (p:=⟨gb426,9,none⟩) (Kd.R_far (p:=⟨gb426,8,none⟩) (Kd.R_far (p:=⟨gb426,7,none⟩) (Kd.R_far (p:=⟨gb426,6,none⟩) (Kd.R_far (p:=⟨gb426,5,none⟩) (Kd.R_far (p:=⟨gb426,4,none⟩) (Kd.R_far (p:=⟨gb426,3,none⟩) (Kd.R_far (p:=⟨gb426,2,none⟩) (Kd.R_far (p:=⟨gb426,1,none⟩) (Kd.R_far (p:=⟨gb426,0,none⟩) (Kd.R_types HO385.out BK426.out (by decide)) (fun _ hk => hk.2) (.int .i64 t410)) (fun _ hk => hk.2) (.int .i64 t411)) (fun _ hk => hk.2) (.int .i64 t412)) (fun _ hk => hk.2) (.int .i64 t413)) (fun _ hk => hk.2) (.int .i64 t414)) (fun _ hk => hk.2) (.int .i64 t415)) (fun _ hk => hk.2) (.int .i64 t416)) (fun _ hk => hk.2) (.slice Ao32 t417.length co32)) (fun _ hk => hk.2) (.int .i64 t420)) (fun _ hk => hk.2) (.int .i64 t421)) (fun _ hk => hk.2) (.int .i64 t422)) (fun _ hk => hk.2) (.int .i64 t423)) (fun _ hk => hk.2) (.int .i64 t424)) (fun _ hk => hk.2) (.int .i64 t425)) (fun _ h_ => h_.1))) (Kd.R_base ho0) hb); have n1_ := Aside0.mk (Kd.R_elder' (by (with_reducible repeat (first | apply Kd.R_alloc | apply Kd.R_drewN | apply Kd.R_drew)); exact (Kd.R_mono (Kd.R_far (p:=⟨gb426,13,none⟩) (Kd.R_far (p:=⟨gb426,12,none⟩) (Kd.R_far (p:=⟨gb426,11,none⟩) (Kd.R_far (p:=⟨gb426,10,none⟩) (Kd.R_far (p:=⟨gb426,9,none⟩) (Kd.R_far (p:=⟨gb426,8,none⟩) (Kd.R_far (p:=⟨gb426,7,none⟩) (Kd.R_far (p:=⟨gb426,6,none⟩) (Kd.R_far (p:=⟨gb426,5,none⟩) (Kd.R_far (p:=⟨gb426,4,none⟩) (Kd.R_far (p:=⟨gb426,3,none⟩) (Kd.R_far (p:=⟨gb426,2,none⟩) (Kd.R_far (p:=⟨gb426,1,none⟩) (Kd.R_far (p:=⟨gb426,0,none⟩) (Kd.R_types HO401.out BK426.out (by decide)) (fun _ hk => hk.2) (.int .i64 t410)) (fun _ hk => hk.2) (.int .i64 t411)) (fun _ hk => hk.2) (.int .i64 t412)) (fun _ hk => hk.2) (.int .i64 t413)) (fun _ hk => hk.2) (.int .i64 t414)) (fun _ hk => hk.2) (.int .i64 t415)) (fun _ hk => hk.2) (.int .i64 t416)) (fun _ hk => hk.2) (.slice Ao32 t417.length co32)) (fun _ hk => hk.2) (.int .i64 t420)) (fun _ hk => hk.2) (.int .i64 t421)) (fun _ hk => hk.2) (.int .i64 t422)) (fun _ hk => hk.2) (.int .i64 t423)) (fun _ hk => hk.2) (.int .i64 t424)) (fun _ hk => hk.2) (.int .i64 t425)) (fun _ h_ => h_.1))) (Kd.R_base ho0) hb); have n2_ := Aside0.mk (Kd.R_elder' (by (with_reducible repeat (first | apply Kd.R_alloc | apply Kd.R_drewN | apply Kd.R_drew)); exact (Kd.R_mono (Kd.R_far (p:=⟨gb426,13,none⟩) (Kd.R_far (p:=⟨gb426,12,none⟩) (Kd.R_far (p:=⟨gb426,11,none⟩) (Kd.R_far (p:=⟨gb426,10,none⟩) (Kd.R_far (p:=⟨gb426,9,none⟩) (Kd.R_far (p:=⟨gb426,8,none⟩) (Kd.R_far (p:=⟨gb426,7,none⟩) (Kd.R_far (p:=⟨gb426,6,none⟩) (Kd.R_far (p:=⟨gb426,5,none⟩) (Kd.R_far (p:=⟨gb426,4,none⟩) (Kd.R_far (p:=⟨gb426,3,none⟩) (Kd.R_far (p:=⟨gb426,2,none⟩) (Kd.R_far (p:=⟨gb426,1,none⟩) (Kd.R_far (p:=⟨gb426,0,none⟩) (Kd.R_types HO419.out BK426.out (by decide)) (fun _ hk => hk.2) (.int .i64 t410)) (fun _ hk => hk.2) (.int .i64 t411)) (fun _ hk => hk.2) (.int .i64 t412)) (fun _ hk => hk.2) (.int .i64 t413)) (fun _ hk => hk.2) (.int .i64 t414)) (fun _ hk => hk.2) (.int .i64 t415)) (fun _ hk => hk.2) (.int .i64 t416)) (fun _ hk => hk.2) (.slice Ao32 t417.length co32)) (fun _ hk => hk.2) (.int .i64 t420)) (fun _ hk => hk.2) (.int .i64 t421)) (fun _ hk => hk.2) (.int .i64 t422)) (fun _ hk => hk.2) (.int .i64 t423)) (fun _ hk => hk.2) (.int .i64 t424)) (fun _ hk => hk.2) (.int .i64 t425)) (fun _ h_ => h_.1))) (Kd.R_base ho0) hb); have n3_ := Aside0.mk (Kd.R_lower (Kd.R_new' (Kd.R_new' (Kd.R_new' ho0 (Kd.R_lt (by (with_reducible repeat (first | apply Kd.R_alloc | apply Kd.R_drewN | apply Kd.R_drew)); exact (Kd.R_mono (Kd.R_far (p:=⟨gb426,13,none⟩) (Kd.R_far (p:=⟨gb426,12,none⟩) (Kd.R_far (p:=⟨gb426,11,none⟩) (Kd.R_far (p:=⟨gb426,10,none⟩) (Kd.R_far (p:=⟨gb426,9,none⟩) (Kd.R_far (p:=⟨gb426,8,none⟩) (Kd.R_far (p:=⟨gb426,7,none⟩) (Kd.R_far (p:=⟨gb426,6,none⟩) (Kd.R_far (p:=⟨gb426,5,none⟩) (Kd.R_far (p:=⟨gb426,4,none⟩) (Kd.R_far (p:=⟨gb426,3,none⟩) (Kd.R_far (p:=⟨gb426,2,none⟩) (Kd.R_far (p:=⟨gb426,1,none⟩) (Kd.R_far (p:=⟨gb426,0,none⟩) (Kd.R_types HO385.out BK426.out (by decide)) (fun _ hk => hk.2) (.int .i64 t410)) (fun _ hk => hk.2) (.int .i64 t411)) (fun _ hk => hk.2) (.int .i64 t412)) (fun _ hk => hk.2) (.int .i64 t413)) (fun _ hk => hk.2) (.int .i64 t414)) (fun _ hk => hk.2) (.int .i64 t415)) (fun _ hk => hk.2) (.int .i64 t416)) (fun _ hk => hk.2) (.slice Ao32 t417.length co32)) (fun _ hk => hk.2) (.int .i64 t420)) (fun _ hk => hk.2) (.int .i64 t421)) (fun _ hk => hk.2) (.int .i64 t422)) (fun _ hk => hk.2) (.int .i64 t423)) (fun _ hk => hk.2) (.int .i64 t424)) (fun _ hk => hk.2) (.int .i64 t425)) (fun _ h_ => h_.1))))) (Kd.R_lt (by (with_reducible repeat (first | apply Kd.R_alloc | apply Kd.R_drewN | apply Kd.R_drew)); exact (Kd.R_mono (Kd.R_far (p:=⟨gb426,13,none⟩) (Kd.R_far (p:=⟨gb426,12,none⟩) (Kd.R_far (p:=⟨gb426,11,none⟩) (Kd.R_far (p:=⟨gb426,10,none⟩) (Kd.R_far (p:=⟨gb426,9,none⟩) (Kd.R_far (p:=⟨gb426,8,none⟩) (Kd.R_far (p:=⟨gb426,7,none⟩) (Kd.R_far (p:=⟨gb426,6,none⟩) (Kd.R_far (p:=⟨gb426,5,none⟩) (Kd.R_far (p:=⟨gb426,4,none⟩) (Kd.R_far (p:=⟨gb426,3,none⟩) (Kd.R_far (p:=⟨gb426,2,none⟩) (Kd.R_far (p:=⟨gb426,1,none⟩) (Kd.R_far (p:=⟨gb426,0,none⟩) (Kd.R_types HO401.out BK426.out (by decide)) (fun _ hk => hk.2) (.int .i64 t410)) (fun _ hk => hk.2) (.int .i64 t411)) (fun _ hk => hk.2) (.int .i64 t412)) (fun _ hk => hk.2) (.int .i64 t413)) (fun _ hk => hk.2) (.int .i64 t414)) (fun _ hk => hk.2) (.int .i64 t415)) (fun _ hk => hk.2) (.int .i64 t416)) (fun _ hk => hk.2) (.slice Ao32 t417.length co32)) (fun _ hk => hk.2) (.int .i64 t420)) (fun _ hk => hk.2) (.int .i64 t421)) (fun _ hk => hk.2) (.int .i64 t422)) (fun _ hk => hk.2) (.int .i64 t423)) (fun _ hk => hk.2) (.int .i64 t424)) (fun _ hk => hk.2) (.int .i64 t425)) (fun _ h_ => h_.1))))) (Kd.R_lt (by (with_reducible repeat (first | apply Kd.R_alloc | apply Kd.R_drewN | apply Kd.R_drew)); exact (Kd.R_mono (Kd.R_far (p:=⟨gb426,13,none⟩) (Kd.R_far (p:=⟨gb426,12,none⟩) (Kd.R_far (p:=⟨gb426,11,none⟩) (Kd.R_far (p:=⟨gb426,10,none⟩) (Kd.R_far (p:=⟨gb426,9,none⟩) (Kd.R_far (p:=⟨gb426,8,none⟩) (Kd.R_far (p:=⟨gb426,7,none⟩) (Kd.R_far (p:=⟨gb426,6,none⟩) (Kd.R_far (p:=⟨gb426,5,none⟩) (Kd.R_far (p:=⟨gb426,4,none⟩) (Kd.R_far (p:=⟨gb426,3,none⟩) (Kd.R_far (p:=⟨gb426,2,none⟩) (Kd.R_far (p:=⟨gb426,1,none⟩) (Kd.R_far (p:=⟨gb426,0,none⟩) (Kd.R_types HO419.out BK426.out (by decide)) (fun _ hk => hk.2) (.int .i64 t410)) (fun _ hk => hk.2) (.int .i64 t411)) (fun _ hk => hk.2) (.int .i64 t412)) (fun _ hk => hk.2) (.int .i64 t413)) (fun _ hk => hk.2) (.int .i64 t414)) (fun _ hk => hk.2) (.int .i64 t415)) (fun _ hk => hk.2) (.int .i64 t416)) (fun _ hk => hk.2) (.slice Ao32 t417.length co32)) (fun _ hk => hk.2) (.int .i64 t420)) (fun _ hk => hk.2) (.int .i64 t421)) (fun _ hk => hk.2) (.int .i64 t422)) (fun _ hk => hk.2) (.int .i64 t423)) (fun _ hk => hk.2) (.int .i64 t424)) (fun _ hk => hk.2) (.int .i64 t425)) (fun _ h_ => h_.1))))) (below_size bA)); have n4_ := Aside0.mk (blk_below (g:=gb374) (o:=.cells #[.int .i64 a0_0,.int .i64 a0_1,.int .i64 a0_2,.int .i64 a0_3,.int .i64 a0_4,.int .i64 a0_5,.int .i64 a0_6,.slice A0_7 l0_7.length c0_7,.int .i64 a0_8,.int .i64 a0_9,.int .i64 a0_10,.int .i64 a0_11,.int .i64 a0_12,.int .i64 a0_13] 56 (0,0)) (kF BK374.out) hb); have n5_ := Aside0.mk (blk_below (g:=gb409) (o:=.cells #[.int .i64 t392,.int .i64 t393,.int .i64 t394,.int .i64 t395,.int .i64 t396,.int .i64 t397,.int .i64 t398,.slice Ao25 t399.length co25,.int .i64 t402,.int .i64 t403,.int .i64 t404,.int .i64 t405,.int .i64 t406,.int .i64 t407] 60 (0,0)) (kF BK409.out) hb); have n6_ := Aside0.mk (blk_below (g:=gb426) (o:=.cells #[.int .i64 t410,.int .i64 t411,.int .i64 t412,.int .i64 t413,.int .i64 t414,.int .i64 t415,.int .i64 t416,.slice Ao32 t417.length co32,.int .i64 t420,.int .i64 t421,.int .i64 t422,.int .i64 t423,.int .i64 t424,.int .i64 t425] 60 (0,0)) (by (with_reducible repeat (first | refine blk_drewN ?_ _ | refine blk_drew ?_ | refine blk_alloc ?_ _)); refine blk_put (cs := #[.int .i64 t410,.int .i64 t411,.int .i64 t412,.int .i64 t413,.int .i64 t414,.int .i64 t415,.int .i64 t416,.slice Ao32 t417.length co32,.int .i64 t420,.int .i64 t421,.int .i64 t422,.int .i64 t423,.int .i64 t424,.int .i64 0]) ?_ 13 _ rfl; (with_reducible repeat (first | refine blk_drewN ?_ _ | refine blk_drew ?_ | refine blk_alloc ?_ _)); refine blk_put (cs := #[.int .i64 t410,.int .i64 t411,.int .i64 t412,.int .i64 t413,.int .i64 t414,.int .i64 t415,.int .i64 t416,.slice Ao32 t417.length co32,.int .i64 t420,.int .i64 t421,.int .i64 t422,.int .i64 t423,.int .i64 0,.int .i64 0]) ?_ 12 _ rfl; (with_reducible repeat (first | refine blk_drewN ?_ _ | refine blk_drew ?_ | refine blk_alloc ?_ _)); refine blk_put (cs := #[.int .i64 t410,.int .i64 t411,.int .i64 t412,.int .i64 t413,.int .i64 t414,.int .i64 t415,.int .i64 t416,.slice Ao32 t417.length co32,.int .i64 t420,.int .i64 t421,.int .i64 t422,.int .i64 0,.int .i64 0,.int .i64 0]) ?_ 11 _ rfl; (with_reducible repeat (first | refine blk_drewN ?_ _ | refine blk_drew ?_ | refine blk_alloc ?_ _)); refine blk_put (cs := #[.int .i64 t410,.int .i64 t411,.int .i64 t412,.int .i64 t413,.int .i64 t414,.int .i64 t415,.int .i64 t416,.slice Ao32 t417.length co32,.int .i64 t420,.int .i64 t421,.int .i64 0,.int .i64 0,.int .i64 0,.int .i64 0]) ?_ 10 _ rfl; (with_reducible repeat (first | refine blk_drewN ?_ _ | refine blk_drew ?_ | refine blk_alloc ?_ _)); refine blk_put (cs := #[.int .i64 t410,.int .i64 t411,.int .i64 t412,.int .i64 t413,.int .i64 t414,.int .i64 t415,.int .i64 t416,.slice Ao32 t417.length co32,.int .i64 t420,.int .i64 0,.int .i64 0,.int .i64 0,.int .i64 0,.int .i64 0]) ?_ 9 _ rfl; (with_reducible repeat (first | refine blk_drewN ?_ _ | refine blk_drew ?_ | refine blk_alloc ?_ _)); refine blk_put (cs := #[.int .i64 t410,.int .i64 t411,.int .i64 t412,.int .i64 t413,.int .i64 t414,.int .i64 t415,.int .i64 t416,.slice Ao32 t417.length co32,.int .i64 0,.int .i64 0,.int .i64 0,.int .i64 0,.int .i64 0,.int .i64 0]) ?_ 8 _ rfl; (with_reducible repeat (first | refine blk_drewN ?_ _ | refine blk_drew ?_ | refine blk_alloc ?_ _)); refine blk_put (cs := #[.int .i64 t410,.int .i64 t411,.int .i64 t412,.int .i64 t413,.int .i64 t414,.int .i64 t415,.int .i64 t416,.slice none 0 0,.int .i64 0,.int .i64 0,.int .i64 0,.int .i64 0,.int .i64 0,.int .i64 0]) ?_ 7 _ rfl; (with_reducible repeat (first | refine blk_drewN ?_ _ | refine blk_drew ?_ | refine blk_alloc ?_ _)); refine blk_put (cs := #[.int .i64 t410,.int .i64 t411,.int .i64 t412,.int .i64 t413,.int .i64 t414,.int .i64 t415,.int .i64 0,.slice none 0 0,.int .i64 0,.int .i64 0,.int .i64 0,.int .i64 0,.int .i64 0,.int .i64 0]) ?_ 6 _ rfl; (with_reducible repeat (first | refine blk_drewN ?_ _ | refine blk_drew ?_ | refine blk_alloc ?_ _)); refine blk_put (cs := #[.int .i64 t410,.int .i64 t411,.int .i64 t412,.int .i64 t413,.int .i64 t414,.int .i64 0,.int .i64 0,.slice none 0 0,.int .i64 0,.int .i64 0,.int .i64 0,.int .i64 0,.int .i64 0,.int .i64 0]) ?_ 5 _ rfl; (with_reducible repeat (first | refine blk_drewN ?_ _ | refine blk_drew ?_ | refine blk_alloc ?_ _)); refine blk_put (cs := #[.int .i64 t410,.int .i64 t411,.int .i64 t412,.int .i64 t413,.int .i64 0,.int .i64 0,.int .i64 0,.slice none 0 0,.int .i64 0,.int .i64 0,.int .i64 0,.int .i64 0,.int .i64 0,.int .i64 0]) ?_ 4 _ rfl; (with_reducible repeat (first | refine blk_drewN ?_ _ | refine blk_drew ?_ | refine blk_alloc ?_ _)); refine blk_put (cs := #[.int .i64 t410,.int .i64 t411,.int .i64 t412,.int .i64 0,.int .i64 0,.int .i64 0,.int .i64 0,.slice none 0 0,.int .i64 0,.int .i64 0,.int .i64 0,.int .i64 0,.int .i64 0,.int .i64 0]) ?_ 3 _ rfl; (with_reducible repeat (first | refine blk_drewN ?_ _ | refine blk_drew ?_ | refine blk_alloc ?_ _)); refine blk_put (cs := #[.int .i64 t410,.int .i64 t411,.int .i64 0,.int .i64 0,.int .i64 0,.int .i64 0,.int .i64 0,.slice none 0 0,.int .i64 0,.int .i64 0,.int .i64 0,.int .i64 0,.int .i64 0,.int .i64 0]) ?_ 2 _ rfl; (with_reducible repeat (first | refine blk_drewN ?_ _ | refine blk_drew ?_ | refine blk_alloc ?_ _)); refine blk_put (cs := #[.int .i64 t410,.int .i64 0,.int .i64 0,.int .i64 0,.int .i64 0,.int .i64 0,.int .i64 0,.slice none 0 0,.int .i64 0,.int .i64 0,.int .i64 0,.int .i64 0,.int .i64 0,.int .i64 0]) ?_ 1 _ rfl; (with_reducible repeat (first | refine blk_drewN ?_ _ | refine blk_drew ?_ | refine blk_alloc ?_ _)); refine blk_put (cs := #[.int .i64 0,.int .i64 0,.int .i64 0,.int .i64 0,.int .i64 0,.int .i64 0,.int .i64 0,.slice none 0 0,.int .i64 0,.int .i64 0,.int .i64 0,.int .i64 0,.int .i64 0,.int .i64 0]) ?_ 0 _ rfl; (with_reducible repeat (first | refine blk_drewN ?_ _ | refine blk_drew ?_ | refine blk_alloc ?_ _)); exact BK426.out) hb); have n7_ := Aside0.mk (below_step bA hb); clear HO385; clear HO401; clear HO419; clear BK374; clear BK409; clear BK426; clear HB; have HO385 := n0_; have HO401 := n1_; have HO419 := n2_; have HO436 := n3_; have BK374 := n4_; have BK409 := n5_; have BK426 := n6_; have HB := n7_; clear n0_ n1_ n2_ n3_ n4_ n5_ n6_ n7_; (try clear hb); (try clear hb2); (try clear hk); (try clear hi); (try clear ho0)) | ((with_reducible refine gate_dst (N:=13) rfl ?_); refine box_event ?hg (N:=13) ?hd (cs := #[.int .i64 0,.int .i64 0,.int .i64 0,.int .i64 0,.int .i64 0,.int .i64 0,.int .i64 0,.slice none 0 0,.int .i64 0,.int .i64 0,.int .i64 0,.int .i64 0,.int .i64 0,.int .i64 0]) (t:=60) ?hr ?_; (case hd => rfl); (case hg => rfl); (case hr => first | (go_simp; done) | (go_simp; rfl)); intro gb444 hg w34 hbox hb; have n0_ := Aside0.mk (Kd.R_below (rA HO385.out) hb); have n1_ := Aside0.mk (Kd.R_below (rA HO401.out) hb); have n2_ := Aside0.mk (Kd.R_below (rA HO419.out) hb); have n3_ := Aside0.mk (Kd.R_below (rA HO436.out) hb); have n4_ := Aside0.mk (blk_below (g:=gb374) (o:=.cells #[.int .i64 a0_0,.int .i64 a0_1,.int .i64 a0_2,.int .i64 a0_3,.int .i64 a0_4,.int .i64 a0_5,.int .i64 a0_6,.slice A0_7 l0_7.length c0_7,.int .i64 a0_8,.int .i64 a0_9,.int .i64 a0_10,.int .i64 a0_11,.int .i64 a0_12,.int .i64 a0_13] 56 (0,0)) (kA BK374.out) hb); have n5_ := Aside0.mk (blk_below (g:=gb409) (o:=.cells #[.int .i64 t392,.int .i64 t393,.int .i64 t394,.int .i64 t395,.int .i64 t396,.int .i64 t397,.int .i64 t398,.slice Ao25 t399.length co25,.int .i64 t402,.int .i64 t403,.int .i64 t404,.int .i64 t405,.int .i64 t406,.int .i64 t407] 60 (0,0)) (kA BK409.out) hb); have n6_ := Aside0.mk (blk_below (g:=gb426) (o:=.cells #[.int .i64 t410,.int .i64 t411,.int .i64 t412,.int .i64 t413,.int .i64 t414,.int .i64 t415,.int .i64 t416,.slice Ao32 t417.length co32,.int .i64 t420,.int .i64 t421,.int .i64 t422,.int .i64 t423,.int .i64 t424,.int .i64 t425] 60 (0,0)) (kA BK426.out) hb); have n7_ := Aside0.mk (below_step bA hb); have n8_ := Aside0.mk (hbox); have n9_ := Aside0.mk ((by rw [hg]; exact (below_size bA) : w.heap.size ≤ gb444)); have n10_ := Aside0.mk ((by rw [hg]; exact (below_size bA) : w.heap.size ≤ gb444)); have n11_ := Aside0.mk ((by rw [hg]; exact Nat.ne_of_lt (blk_lt (g:=gb374) (o:=.cells #[.int .i64 a0_0,.int .i64 a0_1,.int .i64 a0_2,.int .i64 a0_3,.int .i64 a0_4,.int .i64 a0_5,.int .i64 a0_6,.slice A0_7 l0_7.length c0_7,.int .i64 a0_8,.int .i64 a0_9,.int .i64 a0_10,.int .i64 a0_11,.int .i64 a0_12,.int .i64 a0_13] 56 (0,0)) (kA BK374.out)) : gb374 ≠ gb444)); have n12_ := Aside0.mk ((by rw [hg]; exact Nat.ne_of_gt (blk_lt (g:=gb374) (o:=.cells #[.int .i64 a0_0,.int .i64 a0_1,.int .i64 a0_2,.int .i64 a0_3,.int .i64 a0_4,.int .i64 a0_5,.int .i64 a0_6,.slice A0_7 l0_7.length c0_7,.int .i64 a0_8,.int .i64 a0_9,.int .i64 a0_10,.int .i64 a0_11,.int .i64 a0_12,.int .i64 a0_13] 56 (0,0)) (kA BK374.out)) : gb444 ≠ gb374)); have n13_ := Aside0.mk ((by rw [hg]; exact Nat.ne_of_lt (blk_lt (g:=gb409) (o:=.cells #[.int .i64 t392,.int .i64 t393,.int .i64 t394,.int .i64 t395,.int .i64 t396,.int .i64 t397,.int .i64 t398,.slice Ao25 t399.length co25,.int .i64 t402,.int .i64 t403,.int .i64 t404,.int .i64 t405,.int .i64 t406,.int .i64 t407] 60 (0,0)) (kA BK409.out)) : gb409 ≠ gb444)); have n14_ := Aside0.mk ((by rw [hg]; exact Nat.ne_of_gt (blk_lt (g:=gb409) (o:=.cells #[.int .i64 t392,.int .i64 t393,.int .i64 t394,.int .i64 t395,.int .i64 t396,.int .i64 t397,.int .i64 t398,.slice Ao25 t399.length co25,.int .i64 t402,.int .i64 t403,.int .i64 t404,.int .i64 t405,.int .i64 t406,.int .i64 t407] 60 (0,0)) (kA BK409.out)) : gb444 ≠ gb409)); have n15_ := Aside0.mk ((by rw [hg]; exact Nat.ne_of_lt (blk_lt (g:=gb426) (o:=.cells #[.int .i64 t410,.int .i64 t411,.int .i64 t412,.int .i64 t413,.int .i64 t414,.int .i64 t415,.int .i64 t416,.slice Ao32 t417.length co32,.int .i64 t420,.int .i64 t421,.int .i64 t422,.int .i64 t423,.int .i64 t424,.int .i64 t425] 60 (0,0)) (kA BK426.out)) : gb426 ≠ gb444)); have n16_ := Aside0.mk ((by rw [hg]; exact Nat.ne_of_gt (blk_lt (g:=gb426) (o:=.cells #[.int .i64 t410,.int .i64 t411,.int .i64 t412,.int .i64 t413,.int .i64 t414,.int .i64 t415,.int .i64 t416,.slice Ao32 t417.length co32,.int .i64 t420,.int .i64 t421,.int .i64 t422,.int .i64 t423,.int .i64 t424,.int .i64 t425] 60 (0,0)) (kA BK426.out)) : gb444 ≠ gb426)); clear HO385; clear HO401; clear HO419; clear HO436; clear BK374; clear BK409; clear BK426; clear HB; have HO385 := n0_; have HO401 := n1_; have HO419 := n2_; have HO436 := n3_; have BK374 := n4_; have BK409 := n5_; have BK426 := n6_; have HB := n7_; have BK444 := n8_; have GW444 := n9_; have GE444 := n10_; have NB374_444 := n11_; have NB444_374 := n12_; have NB409_444 := n13_; have NB444_409 := n14_; have NB426_444 := n15_; have NB444_426 := n16_; clear n0_ n1_ n2_ n3_ n4_ n5_ n6_ n7_ n8_ n9_ n10_ n11_ n12_ n13_ n14_ n15_ n16_; clear hb hbox hg; have hnb35 := NB444_374.out; have hnc35 := NB374_444.out; have hnb36 := NB444_409.out; have hnc36 := NB409_444.out; have hnb37 := NB444_426.out; have hnc37 := NB426_444.out; have hcz38_0 : w34.cell? ⟨gb444,0,none⟩ = some (.int .i64 0) := (blk_cell BK444.out 0).trans rfl; have hcz38_1 : w34.cell? ⟨gb444,1,none⟩ = some (.int .i64 0) := (blk_cell BK444.out 1).trans rfl; have hcz38_2 : w34.cell? ⟨gb444,2,none⟩ = some (.int .i64 0) := (blk_cell BK444.out 2).trans rfl; have hcz38_3 : w34.cell? ⟨gb444,3,none⟩ = some (.int .i64 0) := (blk_cell BK444.out 3).trans rfl; have hcz38_4 : w34.cell? ⟨gb444,4,none⟩ = some (.int .i64 0) := (blk_cell BK444.out 4).trans rfl; have hcz38_5 : w34.cell? ⟨gb444,5,none⟩ = some (.int .i64 0) := (blk_cell BK444.out 5).trans rfl; have hcz38_6 : w34.cell? ⟨gb444,6,none⟩ = some (.int .i64 0) := (blk_cell BK444.out 6).trans rfl; have hcz38_7 : w34.cell? ⟨gb444,7,none⟩ = some (.slice none 0 0) := (blk_cell BK444.out 7).trans rfl; have hcz38_8 : w34.cell? ⟨gb444,8,none⟩ = some (.int .i64 0) := (blk_cell BK444.out 8).trans rfl; have hcz38_9 : w34.cell? ⟨gb444,9,none⟩ = some (.int .i64 0) := (blk_cell BK444.out 9).trans rfl; have hcz38_10 : w34.cell? ⟨gb444,10,none⟩ = some (.int .i64 0) := (blk_cell BK444.out 10).trans rfl; have hcz38_11 : w34.cell? ⟨gb444,11,none⟩ = some (.int .i64 0) := (blk_cell BK444.out 11).trans rfl; have hcz38_12 : w34.cell? ⟨gb444,12,none⟩ = some (.int .i64 0) := (blk_cell BK444.out 12).trans rfl; have hcz38_13 : w34.cell? ⟨gb444,13,none⟩ = some (.int .i64 0) := (blk_cell BK444.out 13).trans rfl; have hfz38_0 := blk_frozen BK444.out 0; have hfz38_1 := blk_frozen BK444.out 1; have hfz38_2 := blk_frozen BK444.out 2; have hfz38_3 := blk_frozen BK444.out 3; have hfz38_4 := blk_frozen BK444.out 4; have hfz38_5 := blk_frozen BK444.out 5; have hfz38_6 := blk_frozen BK444.out 6; have hfz38_7 := blk_frozen BK444.out 7; have hfz38_8 := blk_frozen BK444.out 8; have hfz38_9 := blk_frozen BK444.out 9; have hfz38_10 := blk_frozen BK444.out 10; have hfz38_11 := blk_frozen BK444.out 11; have hfz38_12 := blk_frozen BK444.out 12; have hfz38_13 := blk_frozen BK444.out 13; obtain ⟨Ao39,co39,eo39⟩ := Kd.R_slice HO436.out; subst eo39))
   (try simp only [Act.put,setIfInBounds_toArray,set_cons_zero,set_cons_succ])
   rename_i zp1_1 zp1_2 zp1_3 zp1_4 zp1_5; revert k a0_0 a0_1 a0_2 a0_3 a0_4 a0_5 a0_6 A0_7 c0_7 l0_7 a0_8 a0_9 a0_10 a0_11 a0_12 a0_13 a1 a2 a3 r w hu56 hu60 HR0_7 HC0_7 HV t375 A5 c6b0 t376 t377 t378 t379 t380 t381 t382 t383 t386 t387 t388 t389 t390 t391 A10 t392 t393 t394 t395 t396 t397 t398 t399 t402 t403 t404 t405 t406 t407 t408 A11 t410 t411 t412 t413 t414 t415 t416 t417 t420 t421 t422 t423 t424 t425 A12 t427 t428 t429 t430 t431 t432 t433 t434 t437 t438 t439 t440 t441 t442 t443 A13 HC14 zp1_1 gb374 w15 GW374 GE374 hcz16_0 hcz16_1 hcz16_2 hcz16_3 hcz16_4 hcz16_5 hcz16_6 hcz16_7 hcz16_8 hcz16_9 hcz16_10 hcz16_11 hcz16_12 hcz16_13 hfz16_0 hfz16_1 hfz16_2 hfz16_3 hfz16_4 hfz16_5 hfz16_6 hfz16_7 hfz16_8 hfz16_9 hfz16_10 hfz16_11 hfz16_12 hfz16_13 w17 hcz18_0 hcz18_1 hcz18_2 hcz18_3 hcz18_4 hcz18_5 hcz18_6 hcz18_7 hcz18_8 hcz18_9 hcz18_10 hcz18_11 hcz18_12 hcz18_13 hfz18_0 hfz18_1 hfz18_2 hfz18_3 hfz18_4 hfz18_5 hfz18_6 hfz18_7 hfz18_8 hfz18_9 hfz18_10 hfz18_11 hfz18_12 hfz18_13 w19 Ao20 co20 w21 gb409 w22 GW409 GE409 NB374_409 NB409_374 hnb23 hnc23 hcz24_0 hcz24_1 hcz24_2 hcz24_3 hcz24_4 hcz24_5 hcz24_6 hcz24_7 hcz24_8 hcz24_9 hcz24_10 hcz24_11 hcz24_12 hcz24_13 hfz24_0 hfz24_1 hfz24_2 hfz24_3 hfz24_4 hfz24_5 hfz24_6 hfz24_7 hfz24_8 hfz24_9 hfz24_10 hfz24_11 hfz24_12 hfz24_13 Ao25 co25 hcz26_0 hcz26_1 hcz26_2 hcz26_3 hcz26_4 hcz26_5 hcz26_6 hcz26_7 hcz26_8 hcz26_9 hcz26_10 hcz26_11 hcz26_12 hcz26_13 hfz26_0 hfz26_1 hfz26_2 hfz26_3 hfz26_4 hfz26_5 hfz26_6 hfz26_7 hfz26_8 hfz26_9 hfz26_10 hfz26_11 hfz26_12 hfz26_13 w27 gb426 w28 GW426 GE426 NB374_426 NB426_374 NB409_426 NB426_409 hnb29 hnc29 hnb30 hnc30 hcz31_0 hcz31_1 hcz31_2 hcz31_3 hcz31_4 hcz31_5 hcz31_6 hcz31_7 hcz31_8 hcz31_9 hcz31_10 hcz31_11 hcz31_12 hcz31_13 hfz31_0 hfz31_1 hfz31_2 hfz31_3 hfz31_4 hfz31_5 hfz31_6 hfz31_7 hfz31_8 hfz31_9 hfz31_10 hfz31_11 hfz31_12 hfz31_13 Ao32 co32 w33 gb444 w34 BK374 BK409 BK426 HB BK444 GW444 GE444 NB374_444 NB444_374 NB409_444 NB444_409 NB426_444 NB444_426 hnb35 hnc35 hnb36 hnc36 hnb37 hnc37 hcz38_0 hcz38_1 hcz38_2 hcz38_3 hcz38_4 hcz38_5 hcz38_6 hcz38_7 hcz38_8 hcz38_9 hcz38_10 hcz38_11 hcz38_12 hcz38_13 hfz38_0 hfz38_1 hfz38_2 hfz38_3 hfz38_4 hfz38_5 hfz38_6 hfz38_7 hfz38_8 hfz38_9 hfz38_10 hfz38_11 hfz38_12 hfz38_13 Ao39 co39 HO385 HO401 HO419 HO436 zp1_2 zp1_3 zp1_4 zp1_5; exact hm_.out
set_option maxHeartbeats 8000000 in
set_option maxRecDepth 100000 in
noncomputable def FnExactAskReader_cut2 : PSigma (fun M_ : Prop => CutW M_ → FnExactAskReader_cut1.1) := by
  apply PSigma.mk
  case snd =>
   intro hm_
   intro k a0_0 a0_1 a0_2 a0_3 a0_4 a0_5 a0_6 A0_7 c0_7 l0_7 a0_8 a0_9 a0_10 a0_11 a0_12 a0_13 a1 a2 a3 r w hu56 hu60 HR0_7 HC0_7 HV t375 A5 c6b0 t376 t377 t378 t379 t380 t381 t382 t383 t386 t387 t388 t389 t390 t391 A10 t392 t393 t394 t395 t396 t397 t398 t399 t402 t403 t404 t405 t406 t407 t408 A11 t410 t411 t412 t413 t414 t415 t416 t417 t420 t421 t422 t423 t424 t425 A12 t427 t428 t429 t430 t431 t432 t433 t434 t437 t438 t439 t440 t441 t442 t443 A13 HC14 zq1_1 gb374 w15 GW374 GE374 hcz16_0 hcz16_1 hcz16_2 hcz16_3 hcz16_4 hcz16_5 hcz16_6 hcz16_7 hcz16_8 hcz16_9 hcz16_10 hcz16_11 hcz16_12 hcz16_13 hfz16_0 hfz16_1 hfz16_2 hfz16_3 hfz16_4 hfz16_5 hfz16_6 hfz16_7 hfz16_8 hfz16_9 hfz16_10 hfz16_11 hfz16_12 hfz16_13 w17 hcz18_0 hcz18_1 hcz18_2 hcz18_3 hcz18_4 hcz18_5 hcz18_6 hcz18_7 hcz18_8 hcz18_9 hcz18_10 hcz18_11 hcz18_12 hcz18_13 hfz18_0 hfz18_1 hfz18_2 hfz18_3 hfz18_4 hfz18_5 hfz18_6 hfz18_7 hfz18_8 hfz18_9 hfz18_10 hfz18_11 hfz18_12 hfz18_13 w19 Ao20 co20 w21 gb409 w22 GW409 GE409 NB374_409 NB409_374 hnb23 hnc23 hcz24_0 hcz24_1 hcz24_2 hcz24_3 hcz24_4 hcz24_5 hcz24_6 hcz24_7 hcz24_8 hcz24_9 hcz24_10 hcz24_11 hcz24_12 hcz24_13 hfz24_0 hfz24_1 hfz24_2 hfz24_3 hfz24_4 hfz24_5 hfz24_6 hfz24_7 hfz24_8 hfz24_9 hfz24_10 hfz24_11 hfz24_12 hfz24_13 Ao25 co25 hcz26_0 hcz26_1 hcz26_2 hcz26_3 hcz26_4 hcz26_5 hcz26_6 hcz26_7 hcz26_8 hcz26_9 hcz26_10 hcz26_11 hcz26_12 hcz26_13 hfz26_0 hfz26_1 hfz26_2 hfz26_3 hfz26_4 hfz26_5 hfz26_6 hfz26_7 hfz26_8 hfz26_9 hfz26_10 hfz26_11 hfz26_12 hfz26_13 w27 gb426 w28 GW426 GE426 NB374_426 NB426_374 NB409_426 NB426_409 hnb29 hnc29 hnb30 hnc30 hcz31_0 hcz31_1 hcz31_2 hcz31_3 hcz31_4 hcz31_5 hcz31_6 hcz31_7 hcz31_8 hcz31_9 hcz31_10 hcz31_11 hcz31_12 hcz31_13 hfz31_0 hfz31_1 hfz31_2 hfz31_3 hfz31_4 hfz31_5 hfz31_6 hfz31_7 hfz31_8 hfz31_9 hfz31_10 hfz31_11 hfz31_12 hfz31_13 Ao32 co32 w33 gb444 w34 BK374 BK409 BK426 HB BK444 GW444 GE444 NB374_444 NB444_374 NB409_444 NB444_409 NB426_444 NB444_426 hnb35 hnc35 hnb36 hnc36 hnb37 hnc37 hcz38_0 hcz38_1 hcz38_2 hcz38_3 hcz38_4 hcz38_5 hcz38_6 hcz38_7 hcz38_8 hcz38_9 hcz38_10 hcz38_11 hcz38_12 hcz38_13 hfz38_0 hfz38_1 hfz38_2 hfz38_3 hfz38_4 hfz38_5 hfz38_6 hfz38_7 hfz38_8 hfz38_9 hfz38_10 hfz38_11 hfz38_12 hfz38_13 Ao39 co39 HO385 HO401 HO419 HO436 zq1_2 zq1_3 zq1_4 zq1_5
   go_cut [52] (fun v52 wc => ∃ (kq : Nat) (x52_13 : Bool),v52 = .bool x52_13 ∧ Aside0 (laws_FnExactAskReader.j0 kq a1 a2 a3 t408 t443 x52_13 a0_0 a0_1 a0_2 a0_3 a0_4 a0_5 a0_6 l0_7 a0_8 a0_9 a0_10 a0_11 a0_12 a0_13 t392 t393 t394 t395 t396 t397 t398 t399 t402 t403 t404 t405 t406 t407 t410 t411 t412 t413 t414 t415 t416 t417 t420 t421 t422 t423 t424 t425 t427 t428 t429 t430 t431 t432 t433 t434 t437 t438 t439 t440 t441 t442 = some r) ∧ Aside0 (kq ≤ k) ∧ Aside0 (Kd.R k84 84 wc w.heap.size (fun k_ => some k_ ≠ ((.slice Ao32 t417.length co32) : Value).ownBlock ∧ some k_ ≠ ((.slice Ao39 t434.length co39) : Value).ownBlock) (.slice Ao25 t399.length co25) t399) ∧ Aside0 (Kd.R k84 84 wc w.heap.size (fun k_ => some k_ ≠ ((.slice Ao25 t399.length co25) : Value).ownBlock ∧ some k_ ≠ ((.slice Ao39 t434.length co39) : Value).ownBlock) (.slice Ao32 t417.length co32) t417) ∧ Aside0 (Kd.R k84 84 wc w.heap.size (fun k_ => some k_ ≠ ((.slice Ao25 t399.length co25) : Value).ownBlock ∧ some k_ ≠ ((.slice Ao32 t417.length co32) : Value).ownBlock) (.slice Ao39 t434.length co39) t434) ∧ Aside0 (wc.heap[gb374]? = some (.cells #[.int .i64 a0_0,.int .i64 a0_1,.int .i64 a0_2,.int .i64 a0_3,.int .i64 a0_4,.int .i64 a0_5,.int .i64 a0_6,(.slice A0_7 l0_7.length c0_7),.int .i64 a0_8,.int .i64 a0_9,.int .i64 a0_10,.int .i64 a0_11,.int .i64 a0_12,.int .i64 a0_13] 56 (0,0))) ∧ Aside0 (wc.heap[gb409]? = some (.cells #[.int .i64 t392,.int .i64 t393,.int .i64 t394,.int .i64 t395,.int .i64 t396,.int .i64 t397,.int .i64 t398,(.slice Ao25 t399.length co25),.int .i64 t402,.int .i64 t403,.int .i64 t404,.int .i64 t405,.int .i64 t406,.int .i64 t407] 60 (0,0))) ∧ Aside0 (wc.heap[gb426]? = some (.cells #[.int .i64 t410,.int .i64 t411,.int .i64 t412,.int .i64 t413,.int .i64 t414,.int .i64 t415,.int .i64 t416,(.slice Ao32 t417.length co32),.int .i64 t420,.int .i64 t421,.int .i64 t422,.int .i64 t423,.int .i64 t424,.int .i64 t425] 60 (0,0))) ∧ Aside0 (wc.heap[gb444]? = some (.cells #[.int .i64 t427,.int .i64 t428,.int .i64 t429,.int .i64 t430,.int .i64 t431,.int .i64 t432,.int .i64 t433,(.slice Ao39 t434.length co39),.int .i64 t437,.int .i64 t438,.int .i64 t439,.int .i64 t440,.int .i64 t441,.int .i64 t442] 60 (0,0))) ∧ Aside0 (Below w.heap.size w wc))
   case first =>
    have H := HC14.out
    clear HC14
    replace H := Option.bind_eq_some_iff.mp H
    obtain ⟨t445,A400,H⟩ := H
    try dsimp only at H
    have A40 := Aside0.mk A400
    clear A400
    by_cases c41 : t445 = true
    ·subst c41
     rw [if_pos rfl] at H
     have H' := Aside0.mk H
     clear H
     have hnb42 := NB444_374.out
     have hnc42 := NB374_444.out
     have hnb43 := NB444_409.out
     have hnc43 := NB409_444.out
     have hnb44 := NB444_426.out
     have hnc44 := NB426_444.out
     have hcz45_0 : w34.cell? ⟨gb444,0,none⟩ = some (.int .i64 0) := (blk_cell BK444.out 0).trans rfl
     have hcz45_1 : w34.cell? ⟨gb444,1,none⟩ = some (.int .i64 0) := (blk_cell BK444.out 1).trans rfl
     have hcz45_2 : w34.cell? ⟨gb444,2,none⟩ = some (.int .i64 0) := (blk_cell BK444.out 2).trans rfl
     have hcz45_3 : w34.cell? ⟨gb444,3,none⟩ = some (.int .i64 0) := (blk_cell BK444.out 3).trans rfl
     have hcz45_4 : w34.cell? ⟨gb444,4,none⟩ = some (.int .i64 0) := (blk_cell BK444.out 4).trans rfl
     have hcz45_5 : w34.cell? ⟨gb444,5,none⟩ = some (.int .i64 0) := (blk_cell BK444.out 5).trans rfl
     have hcz45_6 : w34.cell? ⟨gb444,6,none⟩ = some (.int .i64 0) := (blk_cell BK444.out 6).trans rfl
     have hcz45_7 : w34.cell? ⟨gb444,7,none⟩ = some (.slice none 0 0) := (blk_cell BK444.out 7).trans rfl
     have hcz45_8 : w34.cell? ⟨gb444,8,none⟩ = some (.int .i64 0) := (blk_cell BK444.out 8).trans rfl
     have hcz45_9 : w34.cell? ⟨gb444,9,none⟩ = some (.int .i64 0) := (blk_cell BK444.out 9).trans rfl
     have hcz45_10 : w34.cell? ⟨gb444,10,none⟩ = some (.int .i64 0) := (blk_cell BK444.out 10).trans rfl
     have hcz45_11 : w34.cell? ⟨gb444,11,none⟩ = some (.int .i64 0) := (blk_cell BK444.out 11).trans rfl
     have hcz45_12 : w34.cell? ⟨gb444,12,none⟩ = some (.int .i64 0) := (blk_cell BK444.out 12).trans rfl
     have hcz45_13 : w34.cell? ⟨gb444,13,none⟩ = some (.int .i64 0) := (blk_cell BK444.out 13).trans rfl
     have hfz45_0 := blk_frozen BK444.out 0
     have hfz45_1 := blk_frozen BK444.out 1
     have hfz45_2 := blk_frozen BK444.out 2
     have hfz45_3 := blk_frozen BK444.out 3
     have hfz45_4 := blk_frozen BK444.out 4
     have hfz45_5 := blk_frozen BK444.out 5
     have hfz45_6 := blk_frozen BK444.out 6
     have hfz45_7 := blk_frozen BK444.out 7
     have hfz45_8 := blk_frozen BK444.out 8
     have hfz45_9 := blk_frozen BK444.out 9
     have hfz45_10 := blk_frozen BK444.out 10
     have hfz45_11 := blk_frozen BK444.out 11
     have hfz45_12 := blk_frozen BK444.out 12
     have hfz45_13 := blk_frozen BK444.out 13
     have hnb46 := NB409_374.out
     have hnc46 := NB374_409.out
     have hnb47 := NB409_426.out
     have hnc47 := NB426_409.out
     have hcz48_0 : w34.cell? ⟨gb409,0,none⟩ = some (.int .i64 t392) := (blk_cell BK409.out 0).trans rfl
     have hcz48_1 : w34.cell? ⟨gb409,1,none⟩ = some (.int .i64 t393) := (blk_cell BK409.out 1).trans rfl
     have hcz48_2 : w34.cell? ⟨gb409,2,none⟩ = some (.int .i64 t394) := (blk_cell BK409.out 2).trans rfl
     have hcz48_3 : w34.cell? ⟨gb409,3,none⟩ = some (.int .i64 t395) := (blk_cell BK409.out 3).trans rfl
     have hcz48_4 : w34.cell? ⟨gb409,4,none⟩ = some (.int .i64 t396) := (blk_cell BK409.out 4).trans rfl
     have hcz48_5 : w34.cell? ⟨gb409,5,none⟩ = some (.int .i64 t397) := (blk_cell BK409.out 5).trans rfl
     have hcz48_6 : w34.cell? ⟨gb409,6,none⟩ = some (.int .i64 t398) := (blk_cell BK409.out 6).trans rfl
     have hcz48_7 : w34.cell? ⟨gb409,7,none⟩ = some (.slice Ao25 t399.length co25) := (blk_cell BK409.out 7).trans rfl
     have hcz48_8 : w34.cell? ⟨gb409,8,none⟩ = some (.int .i64 t402) := (blk_cell BK409.out 8).trans rfl
     have hcz48_9 : w34.cell? ⟨gb409,9,none⟩ = some (.int .i64 t403) := (blk_cell BK409.out 9).trans rfl
     have hcz48_10 : w34.cell? ⟨gb409,10,none⟩ = some (.int .i64 t404) := (blk_cell BK409.out 10).trans rfl
     have hcz48_11 : w34.cell? ⟨gb409,11,none⟩ = some (.int .i64 t405) := (blk_cell BK409.out 11).trans rfl
     have hcz48_12 : w34.cell? ⟨gb409,12,none⟩ = some (.int .i64 t406) := (blk_cell BK409.out 12).trans rfl
     have hcz48_13 : w34.cell? ⟨gb409,13,none⟩ = some (.int .i64 t407) := (blk_cell BK409.out 13).trans rfl
     have hfz48_0 := blk_frozen BK409.out 0
     have hfz48_1 := blk_frozen BK409.out 1
     have hfz48_2 := blk_frozen BK409.out 2
     have hfz48_3 := blk_frozen BK409.out 3
     have hfz48_4 := blk_frozen BK409.out 4
     have hfz48_5 := blk_frozen BK409.out 5
     have hfz48_6 := blk_frozen BK409.out 6
     have hfz48_7 := blk_frozen BK409.out 7
     have hfz48_8 := blk_frozen BK409.out 8
     have hfz48_9 := blk_frozen BK409.out 9
     have hfz48_10 := blk_frozen BK409.out 10
     have hfz48_11 := blk_frozen BK409.out 11
     have hfz48_12 := blk_frozen BK409.out 12
     have hfz48_13 := blk_frozen BK409.out 13
     go_wp2_with (first | ((with_reducible refine gate_callee (f:=26) rfl ?_); refine goesL_ (some 46) rfl rfl Tryd.func26 (by kernel_rfl) rfl #[.agg #[.int .i64 t427,.int .i64 t428,.int .i64 t429,.int .i64 t430,.int .i64 t431,.int .i64 t432,.int .i64 t433,.slice Ao39 t434.length co39,.int .i64 t437,.int .i64 t438,.int .i64 t439,.int .i64 t440,.int .i64 t441,.int .i64 t442],.agg #[.int .i64 t392,.int .i64 t393,.int .i64 t394,.int .i64 t395,.int .i64 t396,.int .i64 t397,.int .i64 t398,.slice Ao25 t399.length co25,.int .i64 t402,.int .i64 t403,.int .i64 t404,.int .i64 t405,.int .i64 t406,.int .i64 t407]] rfl mA ?_; (with_reducible refine (laws_eqReader.calls k t427 t428 t429 t430 t431 t432 t433 _ _ t434 t437 t438 t439 t440 t441 t442 t392 t393 t394 t395 t396 t397 t398 _ _ t399 t402 t403 t404 t405 t406 t407 true _ ?side1 ?side2 ?side3 ?side4 A40.out).mono ?_); (case side1 => refine (Kd.R_reads' (e:=84) (base := w.heap.size) (ok := fun k_ => (((True ∧ some k_ ≠ (.slice Ao20 t383.length co20 : Value).ownBlock) ∧ some k_ ≠ (.slice Ao25 t399.length co25 : Value).ownBlock) ∧ some k_ ≠ (.slice Ao32 t417.length co32 : Value).ownBlock)) (n:=t434.length) (c:=co39) ?_).2.2; exact (by (with_reducible repeat (first | apply Kd.R_alloc | apply Kd.R_drewN | apply Kd.R_drew)); exact (Kd.R_mono (Kd.R_far (p:=⟨gb444,13,none⟩) (Kd.R_far (p:=⟨gb444,12,none⟩) (Kd.R_far (p:=⟨gb444,11,none⟩) (Kd.R_far (p:=⟨gb444,10,none⟩) (Kd.R_far (p:=⟨gb444,9,none⟩) (Kd.R_far (p:=⟨gb444,8,none⟩) (Kd.R_far (p:=⟨gb444,7,none⟩) (Kd.R_far (p:=⟨gb444,6,none⟩) (Kd.R_far (p:=⟨gb444,5,none⟩) (Kd.R_far (p:=⟨gb444,4,none⟩) (Kd.R_far (p:=⟨gb444,3,none⟩) (Kd.R_far (p:=⟨gb444,2,none⟩) (Kd.R_far (p:=⟨gb444,1,none⟩) (Kd.R_far (p:=⟨gb444,0,none⟩) (Kd.R_types HO436.out BK444.out (by decide)) (fun _ hk => hk.2) (.int .i64 t427)) (fun _ hk => hk.2) (.int .i64 t428)) (fun _ hk => hk.2) (.int .i64 t429)) (fun _ hk => hk.2) (.int .i64 t430)) (fun _ hk => hk.2) (.int .i64 t431)) (fun _ hk => hk.2) (.int .i64 t432)) (fun _ hk => hk.2) (.int .i64 t433)) (fun _ hk => hk.2) (.slice Ao39 t434.length co39)) (fun _ hk => hk.2) (.int .i64 t437)) (fun _ hk => hk.2) (.int .i64 t438)) (fun _ hk => hk.2) (.int .i64 t439)) (fun _ hk => hk.2) (.int .i64 t440)) (fun _ hk => hk.2) (.int .i64 t441)) (fun _ hk => hk.2) (.int .i64 t442)) (fun _ h_ => h_.1)))); (case side2 => exact (Kd.R_reads' HO436.out).2.1); (case side3 => refine (Kd.R_reads' (e:=84) (base := w.heap.size) (ok := fun k_ => (((True ∧ some k_ ≠ (.slice Ao20 t383.length co20 : Value).ownBlock) ∧ some k_ ≠ (.slice Ao32 t417.length co32 : Value).ownBlock) ∧ some k_ ≠ (.slice Ao39 t434.length co39 : Value).ownBlock)) (n:=t399.length) (c:=co25) ?_).2.2; exact (by (with_reducible repeat (first | apply Kd.R_alloc | apply Kd.R_drewN | apply Kd.R_drew)); exact (Kd.R_mono (Kd.R_far (p:=⟨gb444,13,none⟩) (Kd.R_far (p:=⟨gb444,12,none⟩) (Kd.R_far (p:=⟨gb444,11,none⟩) (Kd.R_far (p:=⟨gb444,10,none⟩) (Kd.R_far (p:=⟨gb444,9,none⟩) (Kd.R_far (p:=⟨gb444,8,none⟩) (Kd.R_far (p:=⟨gb444,7,none⟩) (Kd.R_far (p:=⟨gb444,6,none⟩) (Kd.R_far (p:=⟨gb444,5,none⟩) (Kd.R_far (p:=⟨gb444,4,none⟩) (Kd.R_far (p:=⟨gb444,3,none⟩) (Kd.R_far (p:=⟨gb444,2,none⟩) (Kd.R_far (p:=⟨gb444,1,none⟩) (Kd.R_far (p:=⟨gb444,0,none⟩) (Kd.R_types HO401.out BK444.out (by decide)) (fun _ hk => hk.2) (.int .i64 t427)) (fun _ hk => hk.2) (.int .i64 t428)) (fun _ hk => hk.2) (.int .i64 t429)) (fun _ hk => hk.2) (.int .i64 t430)) (fun _ hk => hk.2) (.int .i64 t431)) (fun _ hk => hk.2) (.int .i64 t432)) (fun _ hk => hk.2) (.int .i64 t433)) (fun _ hk => hk.2) (.slice Ao39 t434.length co39)) (fun _ hk => hk.2) (.int .i64 t437)) (fun _ hk => hk.2) (.int .i64 t438)) (fun _ hk => hk.2) (.int .i64 t439)) (fun _ hk => hk.2) (.int .i64 t440)) (fun _ hk => hk.2) (.int .i64 t441)) (fun _ hk => hk.2) (.int .i64 t442)) (fun _ h_ => h_.1)))); (case side4 => exact (Kd.R_reads' HO401.out).2.1); rintro e w49 ⟨rfl,hb⟩; refine ⟨_,rfl,?_⟩; have n0_ := Aside0.mk (Kd.R_below (by (with_reducible repeat (first | apply Kd.R_alloc | apply Kd.R_drewN | apply Kd.R_drew)); exact (Kd.R_mono (Kd.R_far (p:=⟨gb444,13,none⟩) (Kd.R_far (p:=⟨gb444,12,none⟩) (Kd.R_far (p:=⟨gb444,11,none⟩) (Kd.R_far (p:=⟨gb444,10,none⟩) (Kd.R_far (p:=⟨gb444,9,none⟩) (Kd.R_far (p:=⟨gb444,8,none⟩) (Kd.R_far (p:=⟨gb444,7,none⟩) (Kd.R_far (p:=⟨gb444,6,none⟩) (Kd.R_far (p:=⟨gb444,5,none⟩) (Kd.R_far (p:=⟨gb444,4,none⟩) (Kd.R_far (p:=⟨gb444,3,none⟩) (Kd.R_far (p:=⟨gb444,2,none⟩) (Kd.R_far (p:=⟨gb444,1,none⟩) (Kd.R_far (p:=⟨gb444,0,none⟩) (Kd.R_types HO385.out BK444.out (by decide)) (fun _ hk => hk.2) (.int .i64 t427)) (fun _ hk => hk.2) (.int .i64 t428)) (fun _ hk => hk.2) (.int .i64 t429)) (fun _ hk => hk.2) (.int .i64 t430)) (fun _ hk => hk.2) (.int .i64 t431)) (fun _ hk => hk.2) (.int .i64 t432)) (fun _ hk => hk.2) (.int .i64 t433)) (fun _ hk => hk.2) (.slice Ao39 t434.length co39)) (fun _ hk => hk.2) (.int .i64 t437)) (fun _ hk => hk.2) (.int .i64 t438)) (fun _ hk => hk.2) (.int .i64 t439)) (fun _ hk => hk.2) (.int .i64 t440)) (fun _ hk => hk.2) (.int .i64 t441)) (fun _ hk => hk.2) (.int .i64 t442)) (fun _ h_ => h_.1))) hb); have n1_ := Aside0.mk (Kd.R_below (by (with_reducible repeat (first | apply Kd.R_alloc | apply Kd.R_drewN | apply Kd.R_drew)); exact (Kd.R_mono (Kd.R_far (p:=⟨gb444,13,none⟩) (Kd.R_far (p:=⟨gb444,12,none⟩) (Kd.R_far (p:=⟨gb444,11,none⟩) (Kd.R_far (p:=⟨gb444,10,none⟩) (Kd.R_far (p:=⟨gb444,9,none⟩) (Kd.R_far (p:=⟨gb444,8,none⟩) (Kd.R_far (p:=⟨gb444,7,none⟩) (Kd.R_far (p:=⟨gb444,6,none⟩) (Kd.R_far (p:=⟨gb444,5,none⟩) (Kd.R_far (p:=⟨gb444,4,none⟩) (Kd.R_far (p:=⟨gb444,3,none⟩) (Kd.R_far (p:=⟨gb444,2,none⟩) (Kd.R_far (p:=⟨gb444,1,none⟩) (Kd.R_far (p:=⟨gb444,0,none⟩) (Kd.R_types HO401.out BK444.out (by decide)) (fun _ hk => hk.2) (.int .i64 t427)) (fun _ hk => hk.2) (.int .i64 t428)) (fun _ hk => hk.2) (.int .i64 t429)) (fun _ hk => hk.2) (.int .i64 t430)) (fun _ hk => hk.2) (.int .i64 t431)) (fun _ hk => hk.2) (.int .i64 t432)) (fun _ hk => hk.2) (.int .i64 t433)) (fun _ hk => hk.2) (.slice Ao39 t434.length co39)) (fun _ hk => hk.2) (.int .i64 t437)) (fun _ hk => hk.2) (.int .i64 t438)) (fun _ hk => hk.2) (.int .i64 t439)) (fun _ hk => hk.2) (.int .i64 t440)) (fun _ hk => hk.2) (.int .i64 t441)) (fun _ hk => hk.2) (.int .i64 t442)) (fun _ h_ => h_.1))) hb); have n2_ := Aside0.mk (Kd.R_below (by (with_reducible repeat (first | apply Kd.R_alloc | apply Kd.R_drewN | apply Kd.R_drew)); exact (Kd.R_mono (Kd.R_far (p:=⟨gb444,13,none⟩) (Kd.R_far (p:=⟨gb444,12,none⟩) (Kd.R_far (p:=⟨gb444,11,none⟩) (Kd.R_far (p:=⟨gb444,10,none⟩) (Kd.R_far (p:=⟨gb444,9,none⟩) (Kd.R_far (p:=⟨gb444,8,none⟩) (Kd.R_far (p:=⟨gb444,7,none⟩) (Kd.R_far (p:=⟨gb444,6,none⟩) (Kd.R_far (p:=⟨gb444,5,none⟩) (Kd.R_far (p:=⟨gb444,4,none⟩) (Kd.R_far (p:=⟨gb444,3,none⟩) (Kd.R_far (p:=⟨gb444,2,none⟩) (Kd.R_far (p:=⟨gb444,1,none⟩) (Kd.R_far (p:=⟨gb444,0,none⟩) (Kd.R_types HO419.out BK444.out (by decide)) (fun _ hk => hk.2) (.int .i64 t427)) (fun _ hk => hk.2) (.int .i64 t428)) (fun _ hk => hk.2) (.int .i64 t429)) (fun _ hk => hk.2) (.int .i64 t430)) (fun _ hk => hk.2) (.int .i64 t431)) (fun _ hk => hk.2) (.int .i64 t432)) (fun _ hk => hk.2) (.int .i64 t433)) (fun _ hk => hk.2) (.slice Ao39 t434.length co39)) (fun _ hk => hk.2) (.int .i64 t437)) (fun _ hk => hk.2) (.int .i64 t438)) (fun _ hk => hk.2) (.int .i64 t439)) (fun _ hk => hk.2) (.int .i64 t440)) (fun _ hk => hk.2) (.int .i64 t441)) (fun _ hk => hk.2) (.int .i64 t442)) (fun _ h_ => h_.1))) hb); have n3_ := Aside0.mk (Kd.R_below (by (with_reducible repeat (first | apply Kd.R_alloc | apply Kd.R_drewN | apply Kd.R_drew)); exact (Kd.R_mono (Kd.R_far (p:=⟨gb444,13,none⟩) (Kd.R_far (p:=⟨gb444,12,none⟩) (Kd.R_far (p:=⟨gb444,11,none⟩) (Kd.R_far (p:=⟨gb444,10,none⟩) (Kd.R_far (p:=⟨gb444,9,none⟩) (Kd.R_far (p:=⟨gb444,8,none⟩) (Kd.R_far (p:=⟨gb444,7,none⟩) (Kd.R_far (p:=⟨gb444,6,none⟩) (Kd.R_far (p:=⟨gb444,5,none⟩) (Kd.R_far (p:=⟨gb444,4,none⟩) (Kd.R_far (p:=⟨gb444,3,none⟩) (Kd.R_far (p:=⟨gb444,2,none⟩) (Kd.R_far (p:=⟨gb444,1,none⟩) (Kd.R_far (p:=⟨gb444,0,none⟩) (Kd.R_types HO436.out BK444.out (by decide)) (fun _ hk => hk.2) (.int .i64 t427)) (fun _ hk => hk.2) (.int .i64 t428)) (fun _ hk => hk.2) (.int .i64 t429)) (fun _ hk => hk.2) (.int .i64 t430)) (fun _ hk => hk.2) (.int .i64 t431)) (fun _ hk => hk.2) (.int .i64 t432)) (fun _ hk => hk.2) (.int .i64 t433)) (fun _ hk => hk.2) (.slice Ao39 t434.length co39)) (fun _ hk => hk.2) (.int .i64 t437)) (fun _ hk => hk.2) (.int .i64 t438)) (fun _ hk => hk.2) (.int .i64 t439)) (fun _ hk => hk.2) (.int .i64 t440)) (fun _ hk => hk.2) (.int .i64 t441)) (fun _ hk => hk.2) (.int .i64 t442)) (fun _ h_ => h_.1))) hb); have n4_ := Aside0.mk (blk_below (g:=gb374) (o:=.cells #[.int .i64 a0_0,.int .i64 a0_1,.int .i64 a0_2,.int .i64 a0_3,.int .i64 a0_4,.int .i64 a0_5,.int .i64 a0_6,.slice A0_7 l0_7.length c0_7,.int .i64 a0_8,.int .i64 a0_9,.int .i64 a0_10,.int .i64 a0_11,.int .i64 a0_12,.int .i64 a0_13] 56 (0,0)) (kF BK374.out) hb); have n5_ := Aside0.mk (blk_below (g:=gb409) (o:=.cells #[.int .i64 t392,.int .i64 t393,.int .i64 t394,.int .i64 t395,.int .i64 t396,.int .i64 t397,.int .i64 t398,.slice Ao25 t399.length co25,.int .i64 t402,.int .i64 t403,.int .i64 t404,.int .i64 t405,.int .i64 t406,.int .i64 t407] 60 (0,0)) (kF BK409.out) hb); have n6_ := Aside0.mk (blk_below (g:=gb426) (o:=.cells #[.int .i64 t410,.int .i64 t411,.int .i64 t412,.int .i64 t413,.int .i64 t414,.int .i64 t415,.int .i64 t416,.slice Ao32 t417.length co32,.int .i64 t420,.int .i64 t421,.int .i64 t422,.int .i64 t423,.int .i64 t424,.int .i64 t425] 60 (0,0)) (kF BK426.out) hb); have n7_ := Aside0.mk (blk_below (g:=gb444) (o:=.cells #[.int .i64 t427,.int .i64 t428,.int .i64 t429,.int .i64 t430,.int .i64 t431,.int .i64 t432,.int .i64 t433,.slice Ao39 t434.length co39,.int .i64 t437,.int .i64 t438,.int .i64 t439,.int .i64 t440,.int .i64 t441,.int .i64 t442] 60 (0,0)) (by (with_reducible repeat (first | refine blk_drewN ?_ _ | refine blk_drew ?_ | refine blk_alloc ?_ _)); refine blk_put (cs := #[.int .i64 t427,.int .i64 t428,.int .i64 t429,.int .i64 t430,.int .i64 t431,.int .i64 t432,.int .i64 t433,.slice Ao39 t434.length co39,.int .i64 t437,.int .i64 t438,.int .i64 t439,.int .i64 t440,.int .i64 t441,.int .i64 0]) ?_ 13 _ rfl; (with_reducible repeat (first | refine blk_drewN ?_ _ | refine blk_drew ?_ | refine blk_alloc ?_ _)); refine blk_put (cs := #[.int .i64 t427,.int .i64 t428,.int .i64 t429,.int .i64 t430,.int .i64 t431,.int .i64 t432,.int .i64 t433,.slice Ao39 t434.length co39,.int .i64 t437,.int .i64 t438,.int .i64 t439,.int .i64 t440,.int .i64 0,.int .i64 0]) ?_ 12 _ rfl; (with_reducible repeat (first | refine blk_drewN ?_ _ | refine blk_drew ?_ | refine blk_alloc ?_ _)); refine blk_put (cs := #[.int .i64 t427,.int .i64 t428,.int .i64 t429,.int .i64 t430,.int .i64 t431,.int .i64 t432,.int .i64 t433,.slice Ao39 t434.length co39,.int .i64 t437,.int .i64 t438,.int .i64 t439,.int .i64 0,.int .i64 0,.int .i64 0]) ?_ 11 _ rfl; (with_reducible repeat (first | refine blk_drewN ?_ _ | refine blk_drew ?_ | refine blk_alloc ?_ _)); refine blk_put (cs := #[.int .i64 t427,.int .i64 t428,.int .i64 t429,.int .i64 t430,.int .i64 t431,.int .i64 t432,.int .i64 t433,.slice Ao39 t434.length co39,.int .i64 t437,.int .i64 t438,.int .i64 0,.int .i64 0,.int .i64 0,.int .i64 0]) ?_ 10 _ rfl; (with_reducible repeat (first | refine blk_drewN ?_ _ | refine blk_drew ?_ | refine blk_alloc ?_ _)); refine blk_put (cs := #[.int .i64 t427,.int .i64 t428,.int .i64 t429,.int .i64 t430,.int .i64 t431,.int .i64 t432,.int .i64 t433,.slice Ao39 t434.length co39,.int .i64 t437,.int .i64 0,.int .i64 0,.int .i64 0,.int .i64 0,.int .i64 0]) ?_ 9 _ rfl; (with_reducible repeat (first | refine blk_drewN ?_ _ | refine blk_drew ?_ | refine blk_alloc ?_ _)); refine blk_put (cs := #[.int .i64 t427,.int .i64 t428,.int .i64 t429,.int .i64 t430,.int .i64 t431,.int .i64 t432,.int .i64 t433,.slice Ao39 t434.length co39,.int .i64 0,.int .i64 0,.int .i64 0,.int .i64 0,.int .i64 0,.int .i64 0]) ?_ 8 _ rfl; (with_reducible repeat (first | refine blk_drewN ?_ _ | refine blk_drew ?_ | refine blk_alloc ?_ _)); refine blk_put (cs := #[.int .i64 t427,.int .i64 t428,.int .i64 t429,.int .i64 t430,.int .i64 t431,.int .i64 t432,.int .i64 t433,.slice none 0 0,.int .i64 0,.int .i64 0,.int .i64 0,.int .i64 0,.int .i64 0,.int .i64 0]) ?_ 7 _ rfl; (with_reducible repeat (first | refine blk_drewN ?_ _ | refine blk_drew ?_ | refine blk_alloc ?_ _)); refine blk_put (cs := #[.int .i64 t427,.int .i64 t428,.int .i64 t429,.int .i64 t430,.int .i64 t431,.int .i64 t432,.int .i64 0,.slice none 0 0,.int .i64 0,.int .i64 0,.int .i64 0,.int .i64 0,.int .i64 0,.int .i64 0]) ?_ 6 _ rfl; (with_reducible repeat (first | refine blk_drewN ?_ _ | refine blk_drew ?_ | refine blk_alloc ?_ _)); refine blk_put (cs := #[.int .i64 t427,.int .i64 t428,.int .i64 t429,.int .i64 t430,.int .i64 t431,.int .i64 0,.int .i64 0,.slice none 0 0,.int .i64 0,.int .i64 0,.int .i64 0,.int .i64 0,.int .i64 0,.int .i64 0]) ?_ 5 _ rfl; (with_reducible repeat (first | refine blk_drewN ?_ _ | refine blk_drew ?_ | refine blk_alloc ?_ _)); refine blk_put (cs := #[.int .i64 t427,.int .i64 t428,.int .i64 t429,.int .i64 t430,.int .i64 0,.int .i64 0,.int .i64 0,.slice none 0 0,.int .i64 0,.int .i64 0,.int .i64 0,.int .i64 0,.int .i64 0,.int .i64 0]) ?_ 4 _ rfl; (with_reducible repeat (first | refine blk_drewN ?_ _ | refine blk_drew ?_ | refine blk_alloc ?_ _)); refine blk_put (cs := #[.int .i64 t427,.int .i64 t428,.int .i64 t429,.int .i64 0,.int .i64 0,.int .i64 0,.int .i64 0,.slice none 0 0,.int .i64 0,.int .i64 0,.int .i64 0,.int .i64 0,.int .i64 0,.int .i64 0]) ?_ 3 _ rfl; (with_reducible repeat (first | refine blk_drewN ?_ _ | refine blk_drew ?_ | refine blk_alloc ?_ _)); refine blk_put (cs := #[.int .i64 t427,.int .i64 t428,.int .i64 0,.int .i64 0,.int .i64 0,.int .i64 0,.int .i64 0,.slice none 0 0,.int .i64 0,.int .i64 0,.int .i64 0,.int .i64 0,.int .i64 0,.int .i64 0]) ?_ 2 _ rfl; (with_reducible repeat (first | refine blk_drewN ?_ _ | refine blk_drew ?_ | refine blk_alloc ?_ _)); refine blk_put (cs := #[.int .i64 t427,.int .i64 0,.int .i64 0,.int .i64 0,.int .i64 0,.int .i64 0,.int .i64 0,.slice none 0 0,.int .i64 0,.int .i64 0,.int .i64 0,.int .i64 0,.int .i64 0,.int .i64 0]) ?_ 1 _ rfl; (with_reducible repeat (first | refine blk_drewN ?_ _ | refine blk_drew ?_ | refine blk_alloc ?_ _)); refine blk_put (cs := #[.int .i64 0,.int .i64 0,.int .i64 0,.int .i64 0,.int .i64 0,.int .i64 0,.int .i64 0,.slice none 0 0,.int .i64 0,.int .i64 0,.int .i64 0,.int .i64 0,.int .i64 0,.int .i64 0]) ?_ 0 _ rfl; (with_reducible repeat (first | refine blk_drewN ?_ _ | refine blk_drew ?_ | refine blk_alloc ?_ _)); exact BK444.out) hb); have n8_ := Aside0.mk (below_step bA hb); clear HO385; clear HO401; clear HO419; clear HO436; clear BK374; clear BK409; clear BK426; clear BK444; clear HB; have HO385 := n0_; have HO401 := n1_; have HO419 := n2_; have HO436 := n3_; have BK374 := n4_; have BK409 := n5_; have BK426 := n6_; have BK444 := n7_; have HB := n8_; clear n0_ n1_ n2_ n3_ n4_ n5_ n6_ n7_ n8_; (try clear hb); (try clear hb2); (try clear hk); (try clear hi)))
     go_meet
     case rel => exact ⟨_,((t443 != t408)),(by first | rfl | (simp; done) | (simp [*]; done)),H',⟨by first | omega | exact Nat.le_refl _⟩,⟨by (with_reducible repeat (first | apply Kd.R_alloc | apply Kd.R_drewN | apply Kd.R_drew)); exact Kd.R_mono HO401.out (fun _ hk => ⟨hk.1.2,hk.2⟩)⟩,⟨by (with_reducible repeat (first | apply Kd.R_alloc | apply Kd.R_drewN | apply Kd.R_drew)); exact Kd.R_mono HO419.out (fun _ hk => ⟨hk.1.2,hk.2⟩)⟩,⟨by (with_reducible repeat (first | apply Kd.R_alloc | apply Kd.R_drewN | apply Kd.R_drew)); exact Kd.R_mono HO436.out (fun _ hk => ⟨hk.1.2,hk.2⟩)⟩,⟨kA BK374.out⟩,⟨kA BK409.out⟩,⟨kA BK426.out⟩,⟨kA BK444.out⟩,⟨bA⟩⟩
    ·replace c41 := Bool.eq_false_iff.mpr c41
     subst c41
     rw [if_neg (show ¬ (false = true) by decide)] at H
     have H' := Aside0.mk H
     clear H
     have hnb50 := NB444_374.out
     have hnc50 := NB374_444.out
     have hnb51 := NB444_409.out
     have hnc51 := NB409_444.out
     have hnb52 := NB444_426.out
     have hnc52 := NB426_444.out
     have hcz53_0 : w34.cell? ⟨gb444,0,none⟩ = some (.int .i64 0) := (blk_cell BK444.out 0).trans rfl
     have hcz53_1 : w34.cell? ⟨gb444,1,none⟩ = some (.int .i64 0) := (blk_cell BK444.out 1).trans rfl
     have hcz53_2 : w34.cell? ⟨gb444,2,none⟩ = some (.int .i64 0) := (blk_cell BK444.out 2).trans rfl
     have hcz53_3 : w34.cell? ⟨gb444,3,none⟩ = some (.int .i64 0) := (blk_cell BK444.out 3).trans rfl
     have hcz53_4 : w34.cell? ⟨gb444,4,none⟩ = some (.int .i64 0) := (blk_cell BK444.out 4).trans rfl
     have hcz53_5 : w34.cell? ⟨gb444,5,none⟩ = some (.int .i64 0) := (blk_cell BK444.out 5).trans rfl
     have hcz53_6 : w34.cell? ⟨gb444,6,none⟩ = some (.int .i64 0) := (blk_cell BK444.out 6).trans rfl
     have hcz53_7 : w34.cell? ⟨gb444,7,none⟩ = some (.slice none 0 0) := (blk_cell BK444.out 7).trans rfl
     have hcz53_8 : w34.cell? ⟨gb444,8,none⟩ = some (.int .i64 0) := (blk_cell BK444.out 8).trans rfl
     have hcz53_9 : w34.cell? ⟨gb444,9,none⟩ = some (.int .i64 0) := (blk_cell BK444.out 9).trans rfl
     have hcz53_10 : w34.cell? ⟨gb444,10,none⟩ = some (.int .i64 0) := (blk_cell BK444.out 10).trans rfl
     have hcz53_11 : w34.cell? ⟨gb444,11,none⟩ = some (.int .i64 0) := (blk_cell BK444.out 11).trans rfl
     have hcz53_12 : w34.cell? ⟨gb444,12,none⟩ = some (.int .i64 0) := (blk_cell BK444.out 12).trans rfl
     have hcz53_13 : w34.cell? ⟨gb444,13,none⟩ = some (.int .i64 0) := (blk_cell BK444.out 13).trans rfl
     have hfz53_0 := blk_frozen BK444.out 0
     have hfz53_1 := blk_frozen BK444.out 1
     have hfz53_2 := blk_frozen BK444.out 2
     have hfz53_3 := blk_frozen BK444.out 3
     have hfz53_4 := blk_frozen BK444.out 4
     have hfz53_5 := blk_frozen BK444.out 5
     have hfz53_6 := blk_frozen BK444.out 6
     have hfz53_7 := blk_frozen BK444.out 7
     have hfz53_8 := blk_frozen BK444.out 8
     have hfz53_9 := blk_frozen BK444.out 9
     have hfz53_10 := blk_frozen BK444.out 10
     have hfz53_11 := blk_frozen BK444.out 11
     have hfz53_12 := blk_frozen BK444.out 12
     have hfz53_13 := blk_frozen BK444.out 13
     have hnb54 := NB409_374.out
     have hnc54 := NB374_409.out
     have hnb55 := NB409_426.out
     have hnc55 := NB426_409.out
     have hcz56_0 : w34.cell? ⟨gb409,0,none⟩ = some (.int .i64 t392) := (blk_cell BK409.out 0).trans rfl
     have hcz56_1 : w34.cell? ⟨gb409,1,none⟩ = some (.int .i64 t393) := (blk_cell BK409.out 1).trans rfl
     have hcz56_2 : w34.cell? ⟨gb409,2,none⟩ = some (.int .i64 t394) := (blk_cell BK409.out 2).trans rfl
     have hcz56_3 : w34.cell? ⟨gb409,3,none⟩ = some (.int .i64 t395) := (blk_cell BK409.out 3).trans rfl
     have hcz56_4 : w34.cell? ⟨gb409,4,none⟩ = some (.int .i64 t396) := (blk_cell BK409.out 4).trans rfl
     have hcz56_5 : w34.cell? ⟨gb409,5,none⟩ = some (.int .i64 t397) := (blk_cell BK409.out 5).trans rfl
     have hcz56_6 : w34.cell? ⟨gb409,6,none⟩ = some (.int .i64 t398) := (blk_cell BK409.out 6).trans rfl
     have hcz56_7 : w34.cell? ⟨gb409,7,none⟩ = some (.slice Ao25 t399.length co25) := (blk_cell BK409.out 7).trans rfl
     have hcz56_8 : w34.cell? ⟨gb409,8,none⟩ = some (.int .i64 t402) := (blk_cell BK409.out 8).trans rfl
     have hcz56_9 : w34.cell? ⟨gb409,9,none⟩ = some (.int .i64 t403) := (blk_cell BK409.out 9).trans rfl
     have hcz56_10 : w34.cell? ⟨gb409,10,none⟩ = some (.int .i64 t404) := (blk_cell BK409.out 10).trans rfl
     have hcz56_11 : w34.cell? ⟨gb409,11,none⟩ = some (.int .i64 t405) := (blk_cell BK409.out 11).trans rfl
     have hcz56_12 : w34.cell? ⟨gb409,12,none⟩ = some (.int .i64 t406) := (blk_cell BK409.out 12).trans rfl
     have hcz56_13 : w34.cell? ⟨gb409,13,none⟩ = some (.int .i64 t407) := (blk_cell BK409.out 13).trans rfl
     have hfz56_0 := blk_frozen BK409.out 0
     have hfz56_1 := blk_frozen BK409.out 1
     have hfz56_2 := blk_frozen BK409.out 2
     have hfz56_3 := blk_frozen BK409.out 3
     have hfz56_4 := blk_frozen BK409.out 4
     have hfz56_5 := blk_frozen BK409.out 5
     have hfz56_6 := blk_frozen BK409.out 6
     have hfz56_7 := blk_frozen BK409.out 7
     have hfz56_8 := blk_frozen BK409.out 8
     have hfz56_9 := blk_frozen BK409.out 9
     have hfz56_10 := blk_frozen BK409.out 10
     have hfz56_11 := blk_frozen BK409.out 11
     have hfz56_12 := blk_frozen BK409.out 12
     have hfz56_13 := blk_frozen BK409.out 13
     go_wp2_with (first | ((with_reducible refine gate_callee (f:=26) rfl ?_); refine goesL_ (some 46) rfl rfl Tryd.func26 (by kernel_rfl) rfl #[.agg #[.int .i64 t427,.int .i64 t428,.int .i64 t429,.int .i64 t430,.int .i64 t431,.int .i64 t432,.int .i64 t433,.slice Ao39 t434.length co39,.int .i64 t437,.int .i64 t438,.int .i64 t439,.int .i64 t440,.int .i64 t441,.int .i64 t442],.agg #[.int .i64 t392,.int .i64 t393,.int .i64 t394,.int .i64 t395,.int .i64 t396,.int .i64 t397,.int .i64 t398,.slice Ao25 t399.length co25,.int .i64 t402,.int .i64 t403,.int .i64 t404,.int .i64 t405,.int .i64 t406,.int .i64 t407]] rfl mA ?_; (with_reducible refine (laws_eqReader.calls k t427 t428 t429 t430 t431 t432 t433 _ _ t434 t437 t438 t439 t440 t441 t442 t392 t393 t394 t395 t396 t397 t398 _ _ t399 t402 t403 t404 t405 t406 t407 false _ ?side1 ?side2 ?side3 ?side4 A40.out).mono ?_); (case side1 => refine (Kd.R_reads' (e:=84) (base := w.heap.size) (ok := fun k_ => (((True ∧ some k_ ≠ (.slice Ao20 t383.length co20 : Value).ownBlock) ∧ some k_ ≠ (.slice Ao25 t399.length co25 : Value).ownBlock) ∧ some k_ ≠ (.slice Ao32 t417.length co32 : Value).ownBlock)) (n:=t434.length) (c:=co39) ?_).2.2; exact (by (with_reducible repeat (first | apply Kd.R_alloc | apply Kd.R_drewN | apply Kd.R_drew)); exact (Kd.R_mono (Kd.R_far (p:=⟨gb444,13,none⟩) (Kd.R_far (p:=⟨gb444,12,none⟩) (Kd.R_far (p:=⟨gb444,11,none⟩) (Kd.R_far (p:=⟨gb444,10,none⟩) (Kd.R_far (p:=⟨gb444,9,none⟩) (Kd.R_far (p:=⟨gb444,8,none⟩) (Kd.R_far (p:=⟨gb444,7,none⟩) (Kd.R_far (p:=⟨gb444,6,none⟩) (Kd.R_far (p:=⟨gb444,5,none⟩) (Kd.R_far (p:=⟨gb444,4,none⟩) (Kd.R_far (p:=⟨gb444,3,none⟩) (Kd.R_far (p:=⟨gb444,2,none⟩) (Kd.R_far (p:=⟨gb444,1,none⟩) (Kd.R_far (p:=⟨gb444,0,none⟩) (Kd.R_types HO436.out BK444.out (by decide)) (fun _ hk => hk.2) (.int .i64 t427)) (fun _ hk => hk.2) (.int .i64 t428)) (fun _ hk => hk.2) (.int .i64 t429)) (fun _ hk => hk.2) (.int .i64 t430)) (fun _ hk => hk.2) (.int .i64 t431)) (fun _ hk => hk.2) (.int .i64 t432)) (fun _ hk => hk.2) (.int .i64 t433)) (fun _ hk => hk.2) (.slice Ao39 t434.length co39)) (fun _ hk => hk.2) (.int .i64 t437)) (fun _ hk => hk.2) (.int .i64 t438)) (fun _ hk => hk.2) (.int .i64 t439)) (fun _ hk => hk.2) (.int .i64 t440)) (fun _ hk => hk.2) (.int .i64 t441)) (fun _ hk => hk.2) (.int .i64 t442)) (fun _ h_ => h_.1)))); (case side2 => exact (Kd.R_reads' HO436.out).2.1); (case side3 => refine (Kd.R_reads' (e:=84) (base := w.heap.size) (ok := fun k_ => (((True ∧ some k_ ≠ (.slice Ao20 t383.length co20 : Value).ownBlock) ∧ some k_ ≠ (.slice Ao32 t417.length co32 : Value).ownBlock) ∧ some k_ ≠ (.slice Ao39 t434.length co39 : Value).ownBlock)) (n:=t399.length) (c:=co25) ?_).2.2; exact (by (with_reducible repeat (first | apply Kd.R_alloc | apply Kd.R_drewN | apply Kd.R_drew)); exact (Kd.R_mono (Kd.R_far (p:=⟨gb444,13,none⟩) (Kd.R_far (p:=⟨gb444,12,none⟩) (Kd.R_far (p:=⟨gb444,11,none⟩) (Kd.R_far (p:=⟨gb444,10,none⟩) (Kd.R_far (p:=⟨gb444,9,none⟩) (Kd.R_far (p:=⟨gb444,8,none⟩) (Kd.R_far (p:=⟨gb444,7,none⟩) (Kd.R_far (p:=⟨gb444,6,none⟩) (Kd.R_far (p:=⟨gb444,5,none⟩) (Kd.R_far (p:=⟨gb444,4,none⟩) (Kd.R_far (p:=⟨gb444,3,none⟩) (Kd.R_far (p:=⟨gb444,2,none⟩) (Kd.R_far (p:=⟨gb444,1,none⟩) (Kd.R_far (p:=⟨gb444,0,none⟩) (Kd.R_types HO401.out BK444.out (by decide)) (fun _ hk => hk.2) (.int .i64 t427)) (fun _ hk => hk.2) (.int .i64 t428)) (fun _ hk => hk.2) (.int .i64 t429)) (fun _ hk => hk.2) (.int .i64 t430)) (fun _ hk => hk.2) (.int .i64 t431)) (fun _ hk => hk.2) (.int .i64 t432)) (fun _ hk => hk.2) (.int .i64 t433)) (fun _ hk => hk.2) (.slice Ao39 t434.length co39)) (fun _ hk => hk.2) (.int .i64 t437)) (fun _ hk => hk.2) (.int .i64 t438)) (fun _ hk => hk.2) (.int .i64 t439)) (fun _ hk => hk.2) (.int .i64 t440)) (fun _ hk => hk.2) (.int .i64 t441)) (fun _ hk => hk.2) (.int .i64 t442)) (fun _ h_ => h_.1)))); (case side4 => exact (Kd.R_reads' HO401.out).2.1); rintro e w57 ⟨rfl,hb⟩; refine ⟨_,rfl,?_⟩; have n0_ := Aside0.mk (Kd.R_below (by (with_reducible repeat (first | apply Kd.R_alloc | apply Kd.R_drewN | apply Kd.R_drew)); exact (Kd.R_mono (Kd.R_far (p:=⟨gb444,13,none⟩) (Kd.R_far (p:=⟨gb444,12,none⟩) (Kd.R_far (p:=⟨gb444,11,none⟩) (Kd.R_far (p:=⟨gb444,10,none⟩) (Kd.R_far (p:=⟨gb444,9,none⟩) (Kd.R_far (p:=⟨gb444,8,none⟩) (Kd.R_far (p:=⟨gb444,7,none⟩) (Kd.R_far (p:=⟨gb444,6,none⟩) (Kd.R_far (p:=⟨gb444,5,none⟩) (Kd.R_far (p:=⟨gb444,4,none⟩) (Kd.R_far (p:=⟨gb444,3,none⟩) (Kd.R_far (p:=⟨gb444,2,none⟩) (Kd.R_far (p:=⟨gb444,1,none⟩) (Kd.R_far (p:=⟨gb444,0,none⟩) (Kd.R_types HO385.out BK444.out (by decide)) (fun _ hk => hk.2) (.int .i64 t427)) (fun _ hk => hk.2) (.int .i64 t428)) (fun _ hk => hk.2) (.int .i64 t429)) (fun _ hk => hk.2) (.int .i64 t430)) (fun _ hk => hk.2) (.int .i64 t431)) (fun _ hk => hk.2) (.int .i64 t432)) (fun _ hk => hk.2) (.int .i64 t433)) (fun _ hk => hk.2) (.slice Ao39 t434.length co39)) (fun _ hk => hk.2) (.int .i64 t437)) (fun _ hk => hk.2) (.int .i64 t438)) (fun _ hk => hk.2) (.int .i64 t439)) (fun _ hk => hk.2) (.int .i64 t440)) (fun _ hk => hk.2) (.int .i64 t441)) (fun _ hk => hk.2) (.int .i64 t442)) (fun _ h_ => h_.1))) hb); have n1_ := Aside0.mk (Kd.R_below (by (with_reducible repeat (first | apply Kd.R_alloc | apply Kd.R_drewN | apply Kd.R_drew)); exact (Kd.R_mono (Kd.R_far (p:=⟨gb444,13,none⟩) (Kd.R_far (p:=⟨gb444,12,none⟩) (Kd.R_far (p:=⟨gb444,11,none⟩) (Kd.R_far (p:=⟨gb444,10,none⟩) (Kd.R_far (p:=⟨gb444,9,none⟩) (Kd.R_far (p:=⟨gb444,8,none⟩) (Kd.R_far (p:=⟨gb444,7,none⟩) (Kd.R_far (p:=⟨gb444,6,none⟩) (Kd.R_far (p:=⟨gb444,5,none⟩) (Kd.R_far (p:=⟨gb444,4,none⟩) (Kd.R_far (p:=⟨gb444,3,none⟩) (Kd.R_far (p:=⟨gb444,2,none⟩) (Kd.R_far (p:=⟨gb444,1,none⟩) (Kd.R_far (p:=⟨gb444,0,none⟩) (Kd.R_types HO401.out BK444.out (by decide)) (fun _ hk => hk.2) (.int .i64 t427)) (fun _ hk => hk.2) (.int .i64 t428)) (fun _ hk => hk.2) (.int .i64 t429)) (fun _ hk => hk.2) (.int .i64 t430)) (fun _ hk => hk.2) (.int .i64 t431)) (fun _ hk => hk.2) (.int .i64 t432)) (fun _ hk => hk.2) (.int .i64 t433)) (fun _ hk => hk.2) (.slice Ao39 t434.length co39)) (fun _ hk => hk.2) (.int .i64 t437)) (fun _ hk => hk.2) (.int .i64 t438)) (fun _ hk => hk.2) (.int .i64 t439)) (fun _ hk => hk.2) (.int .i64 t440)) (fun _ hk => hk.2) (.int .i64 t441)) (fun _ hk => hk.2) (.int .i64 t442)) (fun _ h_ => h_.1))) hb); have n2_ := Aside0.mk (Kd.R_below (by (with_reducible repeat (first | apply Kd.R_alloc | apply Kd.R_drewN | apply Kd.R_drew)); exact (Kd.R_mono (Kd.R_far (p:=⟨gb444,13,none⟩) (Kd.R_far (p:=⟨gb444,12,none⟩) (Kd.R_far (p:=⟨gb444,11,none⟩) (Kd.R_far (p:=⟨gb444,10,none⟩) (Kd.R_far (p:=⟨gb444,9,none⟩) (Kd.R_far (p:=⟨gb444,8,none⟩) (Kd.R_far (p:=⟨gb444,7,none⟩) (Kd.R_far (p:=⟨gb444,6,none⟩) (Kd.R_far (p:=⟨gb444,5,none⟩) (Kd.R_far (p:=⟨gb444,4,none⟩) (Kd.R_far (p:=⟨gb444,3,none⟩) (Kd.R_far (p:=⟨gb444,2,none⟩) (Kd.R_far (p:=⟨gb444,1,none⟩) (Kd.R_far (p:=⟨gb444,0,none⟩) (Kd.R_types HO419.out BK444.out (by decide)) (fun _ hk => hk.2) (.int .i64 t427)) (fun _ hk => hk.2) (.int .i64 t428)) (fun _ hk => hk.2) (.int .i64 t429)) (fun _ hk => hk.2) (.int .i64 t430)) (fun _ hk => hk.2) (.int .i64 t431)) (fun _ hk => hk.2) (.int .i64 t432)) (fun _ hk => hk.2) (.int .i64 t433)) (fun _ hk => hk.2) (.slice Ao39 t434.length co39)) (fun _ hk => hk.2) (.int .i64 t437)) (fun _ hk => hk.2) (.int .i64 t438)) (fun _ hk => hk.2) (.int .i64 t439)) (fun _ hk => hk.2) (.int .i64 t440)) (fun _ hk => hk.2) (.int .i64 t441)) (fun _ hk => hk.2) (.int .i64 t442)) (fun _ h_ => h_.1))) hb); have n3_ := Aside0.mk (Kd.R_below (by (with_reducible repeat (first | apply Kd.R_alloc | apply Kd.R_drewN | apply Kd.R_drew)); exact (Kd.R_mono (Kd.R_far (p:=⟨gb444,13,none⟩) (Kd.R_far (p:=⟨gb444,12,none⟩) (Kd.R_far (p:=⟨gb444,11,none⟩) (Kd.R_far (p:=⟨gb444,10,none⟩) (Kd.R_far (p:=⟨gb444,9,none⟩) (Kd.R_far (p:=⟨gb444,8,none⟩) (Kd.R_far (p:=⟨gb444,7,none⟩) (Kd.R_far (p:=⟨gb444,6,none⟩) (Kd.R_far (p:=⟨gb444,5,none⟩) (Kd.R_far (p:=⟨gb444,4,none⟩) (Kd.R_far (p:=⟨gb444,3,none⟩) (Kd.R_far (p:=⟨gb444,2,none⟩) (Kd.R_far (p:=⟨gb444,1,none⟩) (Kd.R_far (p:=⟨gb444,0,none⟩) (Kd.R_types HO436.out BK444.out (by decide)) (fun _ hk => hk.2) (.int .i64 t427)) (fun _ hk => hk.2) (.int .i64 t428)) (fun _ hk => hk.2) (.int .i64 t429)) (fun _ hk => hk.2) (.int .i64 t430)) (fun _ hk => hk.2) (.int .i64 t431)) (fun _ hk => hk.2) (.int .i64 t432)) (fun _ hk => hk.2) (.int .i64 t433)) (fun _ hk => hk.2) (.slice Ao39 t434.length co39)) (fun _ hk => hk.2) (.int .i64 t437)) (fun _ hk => hk.2) (.int .i64 t438)) (fun _ hk => hk.2) (.int .i64 t439)) (fun _ hk => hk.2) (.int .i64 t440)) (fun _ hk => hk.2) (.int .i64 t441)) (fun _ hk => hk.2) (.int .i64 t442)) (fun _ h_ => h_.1))) hb); have n4_ := Aside0.mk (blk_below (g:=gb374) (o:=.cells #[.int .i64 a0_0,.int .i64 a0_1,.int .i64 a0_2,.int .i64 a0_3,.int .i64 a0_4,.int .i64 a0_5,.int .i64 a0_6,.slice A0_7 l0_7.length c0_7,.int .i64 a0_8,.int .i64 a0_9,.int .i64 a0_10,.int .i64 a0_11,.int .i64 a0_12,.int .i64 a0_13] 56 (0,0)) (kF BK374.out) hb); have n5_ := Aside0.mk (blk_below (g:=gb409) (o:=.cells #[.int .i64 t392,.int .i64 t393,.int .i64 t394,.int .i64 t395,.int .i64 t396,.int .i64 t397,.int .i64 t398,.slice Ao25 t399.length co25,.int .i64 t402,.int .i64 t403,.int .i64 t404,.int .i64 t405,.int .i64 t406,.int .i64 t407] 60 (0,0)) (kF BK409.out) hb); have n6_ := Aside0.mk (blk_below (g:=gb426) (o:=.cells #[.int .i64 t410,.int .i64 t411,.int .i64 t412,.int .i64 t413,.int .i64 t414,.int .i64 t415,.int .i64 t416,.slice Ao32 t417.length co32,.int .i64 t420,.int .i64 t421,.int .i64 t422,.int .i64 t423,.int .i64 t424,.int .i64 t425] 60 (0,0)) (kF BK426.out) hb); have n7_ := Aside0.mk (blk_below (g:=gb444) (o:=.cells #[.int .i64 t427,.int .i64 t428,.int .i64 t429,.int .i64 t430,.int .i64 t431,.int .i64 t432,.int .i64 t433,.slice Ao39 t434.length co39,.int .i64 t437,.int .i64 t438,.int .i64 t439,.int .i64 t440,.int .i64 t441,.int .i64 t442] 60 (0,0)) (by (with_reducible repeat (first | refine blk_drewN ?_ _ | refine blk_drew ?_ | refine blk_alloc ?_ _)); refine blk_put (cs := #[.int .i64 t427,.int .i64 t428,.int .i64 t429,.int .i64 t430,.int .i64 t431,.int .i64 t432,.int .i64 t433,.slice Ao39 t434.length co39,.int .i64 t437,.int .i64 t438,.int .i64 t439,.int .i64 t440,.int .i64 t441,.int .i64 0]) ?_ 13 _ rfl; (with_reducible repeat (first | refine blk_drewN ?_ _ | refine blk_drew ?_ | refine blk_alloc ?_ _)); refine blk_put (cs := #[.int .i64 t427,.int .i64 t428,.int .i64 t429,.int .i64 t430,.int .i64 t431,.int .i64 t432,.int .i64 t433,.slice Ao39 t434.length co39,.int .i64 t437,.int .i64 t438,.int .i64 t439,.int .i64 t440,.int .i64 0,.int .i64 0]) ?_ 12 _ rfl; (with_reducible repeat (first | refine blk_drewN ?_ _ | refine blk_drew ?_ | refine blk_alloc ?_ _)); refine blk_put (cs := #[.int .i64 t427,.int .i64 t428,.int .i64 t429,.int .i64 t430,.int .i64 t431,.int .i64 t432,.int .i64 t433,.slice Ao39 t434.length co39,.int .i64 t437,.int .i64 t438,.int .i64 t439,.int .i64 0,.int .i64 0,.int .i64 0]) ?_ 11 _ rfl; (with_reducible repeat (first | refine blk_drewN ?_ _ | refine blk_drew ?_ | refine blk_alloc ?_ _)); refine blk_put (cs := #[.int .i64 t427,.int .i64 t428,.int .i64 t429,.int .i64 t430,.int .i64 t431,.int .i64 t432,.int .i64 t433,.slice Ao39 t434.length co39,.int .i64 t437,.int .i64 t438,.int .i64 0,.int .i64 0,.int .i64 0,.int .i64 0]) ?_ 10 _ rfl; (with_reducible repeat (first | refine blk_drewN ?_ _ | refine blk_drew ?_ | refine blk_alloc ?_ _)); refine blk_put (cs := #[.int .i64 t427,.int .i64 t428,.int .i64 t429,.int .i64 t430,.int .i64 t431,.int .i64 t432,.int .i64 t433,.slice Ao39 t434.length co39,.int .i64 t437,.int .i64 0,.int .i64 0,.int .i64 0,.int .i64 0,.int .i64 0]) ?_ 9 _ rfl; (with_reducible repeat (first | refine blk_drewN ?_ _ | refine blk_drew ?_ | refine blk_alloc ?_ _)); refine blk_put (cs := #[.int .i64 t427,.int .i64 t428,.int .i64 t429,.int .i64 t430,.int .i64 t431,.int .i64 t432,.int .i64 t433,.slice Ao39 t434.length co39,.int .i64 0,.int .i64 0,.int .i64 0,.int .i64 0,.int .i64 0,.int .i64 0]) ?_ 8 _ rfl; (with_reducible repeat (first | refine blk_drewN ?_ _ | refine blk_drew ?_ | refine blk_alloc ?_ _)); refine blk_put (cs := #[.int .i64 t427,.int .i64 t428,.int .i64 t429,.int .i64 t430,.int .i64 t431,.int .i64 t432,.int .i64 t433,.slice none 0 0,.int .i64 0,.int .i64 0,.int .i64 0,.int .i64 0,.int .i64 0,.int .i64 0]) ?_ 7 _ rfl; (with_reducible repeat (first | refine blk_drewN ?_ _ | refine blk_drew ?_ | refine blk_alloc ?_ _)); refine blk_put (cs := #[.int .i64 t427,.int .i64 t428,.int .i64 t429,.int .i64 t430,.int .i64 t431,.int .i64 t432,.int .i64 0,.slice none 0 0,.int .i64 0,.int .i64 0,.int .i64 0,.int .i64 0,.int .i64 0,.int .i64 0]) ?_ 6 _ rfl; (with_reducible repeat (first | refine blk_drewN ?_ _ | refine blk_drew ?_ | refine blk_alloc ?_ _)); refine blk_put (cs := #[.int .i64 t427,.int .i64 t428,.int .i64 t429,.int .i64 t430,.int .i64 t431,.int .i64 0,.int .i64 0,.slice none 0 0,.int .i64 0,.int .i64 0,.int .i64 0,.int .i64 0,.int .i64 0,.int .i64 0]) ?_ 5 _ rfl; (with_reducible repeat (first | refine blk_drewN ?_ _ | refine blk_drew ?_ | refine blk_alloc ?_ _)); refine blk_put (cs := #[.int .i64 t427,.int .i64 t428,.int .i64 t429,.int .i64 t430,.int .i64 0,.int .i64 0,.int .i64 0,.slice none 0 0,.int .i64 0,.int .i64 0,.int .i64 0,.int .i64 0,.int .i64 0,.int .i64 0]) ?_ 4 _ rfl; (with_reducible repeat (first | refine blk_drewN ?_ _ | refine blk_drew ?_ | refine blk_alloc ?_ _)); refine blk_put (cs := #[.int .i64 t427,.int .i64 t428,.int .i64 t429,.int .i64 0,.int .i64 0,.int .i64 0,.int .i64 0,.slice none 0 0,.int .i64 0,.int .i64 0,.int .i64 0,.int .i64 0,.int .i64 0,.int .i64 0]) ?_ 3 _ rfl; (with_reducible repeat (first | refine blk_drewN ?_ _ | refine blk_drew ?_ | refine blk_alloc ?_ _)); refine blk_put (cs := #[.int .i64 t427,.int .i64 t428,.int .i64 0,.int .i64 0,.int .i64 0,.int .i64 0,.int .i64 0,.slice none 0 0,.int .i64 0,.int .i64 0,.int .i64 0,.int .i64 0,.int .i64 0,.int .i64 0]) ?_ 2 _ rfl; (with_reducible repeat (first | refine blk_drewN ?_ _ | refine blk_drew ?_ | refine blk_alloc ?_ _)); refine blk_put (cs := #[.int .i64 t427,.int .i64 0,.int .i64 0,.int .i64 0,.int .i64 0,.int .i64 0,.int .i64 0,.slice none 0 0,.int .i64 0,.int .i64 0,.int .i64 0,.int .i64 0,.int .i64 0,.int .i64 0]) ?_ 1 _ rfl; (with_reducible repeat (first | refine blk_drewN ?_ _ | refine blk_drew ?_ | refine blk_alloc ?_ _)); refine blk_put (cs := #[.int .i64 0,.int .i64 0,.int .i64 0,.int .i64 0,.int .i64 0,.int .i64 0,.int .i64 0,.slice none 0 0,.int .i64 0,.int .i64 0,.int .i64 0,.int .i64 0,.int .i64 0,.int .i64 0]) ?_ 0 _ rfl; (with_reducible repeat (first | refine blk_drewN ?_ _ | refine blk_drew ?_ | refine blk_alloc ?_ _)); exact BK444.out) hb); have n8_ := Aside0.mk (below_step bA hb); clear HO385; clear HO401; clear HO419; clear HO436; clear BK374; clear BK409; clear BK426; clear BK444; clear HB; have HO385 := n0_; have HO401 := n1_; have HO419 := n2_; have HO436 := n3_; have BK374 := n4_; have BK409 := n5_; have BK426 := n6_; have BK444 := n7_; have HB := n8_; clear n0_ n1_ n2_ n3_ n4_ n5_ n6_ n7_ n8_; (try clear hb); (try clear hb2); (try clear hk); (try clear hi)))
     go_meet
     case rel => exact ⟨_,(true),(by first | rfl | (simp; done) | (simp [*]; done)),H',⟨by first | omega | exact Nat.le_refl _⟩,⟨by (with_reducible repeat (first | apply Kd.R_alloc | apply Kd.R_drewN | apply Kd.R_drew)); exact Kd.R_mono HO401.out (fun _ hk => ⟨hk.1.2,hk.2⟩)⟩,⟨by (with_reducible repeat (first | apply Kd.R_alloc | apply Kd.R_drewN | apply Kd.R_drew)); exact Kd.R_mono HO419.out (fun _ hk => ⟨hk.1.2,hk.2⟩)⟩,⟨by (with_reducible repeat (first | apply Kd.R_alloc | apply Kd.R_drewN | apply Kd.R_drew)); exact Kd.R_mono HO436.out (fun _ hk => ⟨hk.1.2,hk.2⟩)⟩,⟨kA BK374.out⟩,⟨kA BK409.out⟩,⟨kA BK426.out⟩,⟨kA BK444.out⟩,⟨bA⟩⟩
   case rest =>
    clear HC14
    try clear c2
    try clear p2
    try clear c3
    try clear c4
    try clear c5
    try clear c6
    try clear c6b0
    try clear c22
    try clear c23
    try clear c24
    try clear c26
    try clear c27
    try clear c28
    try clear c29
    try clear c30
    try clear c35
    try clear c36
    try clear c37
    try clear c41
    try clear c42
    try clear c43
    try clear c44
    try clear c46
    try clear c47
    try clear c50
    try clear c51
    try clear c52
    try clear c54
    try clear c55
    try clear hcz16_0
    try clear hcz16_1
    try clear hcz16_10
    try clear hcz16_11
    try clear hcz16_12
    try clear hcz16_13
    try clear hcz16_2
    try clear hcz16_3
    try clear hcz16_4
    try clear hcz16_5
    try clear hcz16_6
    try clear hcz16_7
    try clear hcz16_8
    try clear hcz16_9
    try clear hcz18_0
    try clear hcz18_1
    try clear hcz18_10
    try clear hcz18_11
    try clear hcz18_12
    try clear hcz18_13
    try clear hcz18_2
    try clear hcz18_3
    try clear hcz18_4
    try clear hcz18_5
    try clear hcz18_6
    try clear hcz18_7
    try clear hcz18_8
    try clear hcz18_9
    try clear hcz24_0
    try clear hcz24_1
    try clear hcz24_10
    try clear hcz24_11
    try clear hcz24_12
    try clear hcz24_13
    try clear hcz24_2
    try clear hcz24_3
    try clear hcz24_4
    try clear hcz24_5
    try clear hcz24_6
    try clear hcz24_7
    try clear hcz24_8
    try clear hcz24_9
    try clear hcz26_0
    try clear hcz26_1
    try clear hcz26_10
    try clear hcz26_11
    try clear hcz26_12
    try clear hcz26_13
    try clear hcz26_2
    try clear hcz26_3
    try clear hcz26_4
    try clear hcz26_5
    try clear hcz26_6
    try clear hcz26_7
    try clear hcz26_8
    try clear hcz26_9
    try clear hcz31_0
    try clear hcz31_1
    try clear hcz31_10
    try clear hcz31_11
    try clear hcz31_12
    try clear hcz31_13
    try clear hcz31_2
    try clear hcz31_3
    try clear hcz31_4
    try clear hcz31_5
    try clear hcz31_6
    try clear hcz31_7
    try clear hcz31_8
    try clear hcz31_9
    try clear hcz38_0
    try clear hcz38_1
    try clear hcz38_10
    try clear hcz38_11
    try clear hcz38_12
    try clear hcz38_13
    try clear hcz38_2
    try clear hcz38_3
    try clear hcz38_4
    try clear hcz38_5
    try clear hcz38_6
    try clear hcz38_7
    try clear hcz38_8
    try clear hcz38_9
    try clear hcz45_0
    try clear hcz45_1
    try clear hcz45_10
    try clear hcz45_11
    try clear hcz45_12
    try clear hcz45_13
    try clear hcz45_2
    try clear hcz45_3
    try clear hcz45_4
    try clear hcz45_5
    try clear hcz45_6
    try clear hcz45_7
    try clear hcz45_8
    try clear hcz45_9
    try clear hcz48_0
    try clear hcz48_1
    try clear hcz48_10
    try clear hcz48_11
    try clear hcz48_12
    try clear hcz48_13
    try clear hcz48_2
    try clear hcz48_3
    try clear hcz48_4
    try clear hcz48_5
    try clear hcz48_6
    try clear hcz48_7
    try clear hcz48_8
    try clear hcz48_9
    try clear hcz53_0
    try clear hcz53_1
    try clear hcz53_10
    try clear hcz53_11
    try clear hcz53_12
    try clear hcz53_13
    try clear hcz53_2
    try clear hcz53_3
    try clear hcz53_4
    try clear hcz53_5
    try clear hcz53_6
    try clear hcz53_7
    try clear hcz53_8
    try clear hcz53_9
    try clear hcz56_0
    try clear hcz56_1
    try clear hcz56_10
    try clear hcz56_11
    try clear hcz56_12
    try clear hcz56_13
    try clear hcz56_2
    try clear hcz56_3
    try clear hcz56_4
    try clear hcz56_5
    try clear hcz56_6
    try clear hcz56_7
    try clear hcz56_8
    try clear hcz56_9
    try clear hcz8_0
    try clear hcz8_1
    try clear hcz8_10
    try clear hcz8_11
    try clear hcz8_12
    try clear hcz8_13
    try clear hcz8_2
    try clear hcz8_3
    try clear hcz8_4
    try clear hcz8_5
    try clear hcz8_6
    try clear hcz8_7
    try clear hcz8_8
    try clear hcz8_9
    try clear hfz16_0
    try clear hfz16_1
    try clear hfz16_10
    try clear hfz16_11
    try clear hfz16_12
    try clear hfz16_13
    try clear hfz16_2
    try clear hfz16_3
    try clear hfz16_4
    try clear hfz16_5
    try clear hfz16_6
    try clear hfz16_7
    try clear hfz16_8
    try clear hfz16_9
    try clear hfz18_0
    try clear hfz18_1
    try clear hfz18_10
    try clear hfz18_11
    try clear hfz18_12
    try clear hfz18_13
    try clear hfz18_2
    try clear hfz18_3
    try clear hfz18_4
    try clear hfz18_5
    try clear hfz18_6
    try clear hfz18_7
    try clear hfz18_8
    try clear hfz18_9
    try clear hfz24_0
    try clear hfz24_1
    try clear hfz24_10
    try clear hfz24_11
    try clear hfz24_12
    try clear hfz24_13
    try clear hfz24_2
    try clear hfz24_3
    try clear hfz24_4
    try clear hfz24_5
    try clear hfz24_6
    try clear hfz24_7
    try clear hfz24_8
    try clear hfz24_9
    try clear hfz26_0
    try clear hfz26_1
    try clear hfz26_10
    try clear hfz26_11
    try clear hfz26_12
    try clear hfz26_13
    try clear hfz26_2
    try clear hfz26_3
    try clear hfz26_4
    try clear hfz26_5
    try clear hfz26_6
    try clear hfz26_7
    try clear hfz26_8
    try clear hfz26_9
    try clear hfz31_0
    try clear hfz31_1
    try clear hfz31_10
    try clear hfz31_11
    try clear hfz31_12
    try clear hfz31_13
    try clear hfz31_2
    try clear hfz31_3
    try clear hfz31_4
    try clear hfz31_5
    try clear hfz31_6
    try clear hfz31_7
    try clear hfz31_8
    try clear hfz31_9
    try clear hfz38_0
    try clear hfz38_1
    try clear hfz38_10
    try clear hfz38_11
    try clear hfz38_12
    try clear hfz38_13
    try clear hfz38_2
    try clear hfz38_3
    try clear hfz38_4
    try clear hfz38_5
    try clear hfz38_6
    try clear hfz38_7
    try clear hfz38_8
    try clear hfz38_9
    try clear hfz45_0
    try clear hfz45_1
    try clear hfz45_10
    try clear hfz45_11
    try clear hfz45_12
    try clear hfz45_13
    try clear hfz45_2
    try clear hfz45_3
    try clear hfz45_4
    try clear hfz45_5
    try clear hfz45_6
    try clear hfz45_7
    try clear hfz45_8
    try clear hfz45_9
    try clear hfz48_0
    try clear hfz48_1
    try clear hfz48_10
    try clear hfz48_11
    try clear hfz48_12
    try clear hfz48_13
    try clear hfz48_2
    try clear hfz48_3
    try clear hfz48_4
    try clear hfz48_5
    try clear hfz48_6
    try clear hfz48_7
    try clear hfz48_8
    try clear hfz48_9
    try clear hfz53_0
    try clear hfz53_1
    try clear hfz53_10
    try clear hfz53_11
    try clear hfz53_12
    try clear hfz53_13
    try clear hfz53_2
    try clear hfz53_3
    try clear hfz53_4
    try clear hfz53_5
    try clear hfz53_6
    try clear hfz53_7
    try clear hfz53_8
    try clear hfz53_9
    try clear hfz56_0
    try clear hfz56_1
    try clear hfz56_10
    try clear hfz56_11
    try clear hfz56_12
    try clear hfz56_13
    try clear hfz56_2
    try clear hfz56_3
    try clear hfz56_4
    try clear hfz56_5
    try clear hfz56_6
    try clear hfz56_7
    try clear hfz56_8
    try clear hfz56_9
    try clear hfz8_0
    try clear hfz8_1
    try clear hfz8_10
    try clear hfz8_11
    try clear hfz8_12
    try clear hfz8_13
    try clear hfz8_2
    try clear hfz8_3
    try clear hfz8_4
    try clear hfz8_5
    try clear hfz8_6
    try clear hfz8_7
    try clear hfz8_8
    try clear hfz8_9
    revert k a0_0 a0_1 a0_2 a0_3 a0_4 a0_5 a0_6 A0_7 c0_7 l0_7 a0_8 a0_9 a0_10 a0_11 a0_12 a0_13 a1 a2 a3 r w hu56 hu60 HR0_7 HC0_7 HV t375 A5 t376 t377 t378 t379 t380 t381 t382 t383 t386 t387 t388 t389 t390 t391 A10 t392 t393 t394 t395 t396 t397 t398 t399 t402 t403 t404 t405 t406 t407 t408 A11 t410 t411 t412 t413 t414 t415 t416 t417 t420 t421 t422 t423 t424 t425 A12 t427 t428 t429 t430 t431 t432 t433 t434 t437 t438 t439 t440 t441 t442 t443 A13 zq1_1 gb374 w15 GW374 GE374 w17 w19 Ao20 co20 w21 gb409 w22 GW409 GE409 NB374_409 NB409_374 hnb23 hnc23 Ao25 co25 w27 gb426 w28 GW426 GE426 NB374_426 NB426_374 NB409_426 NB426_409 hnb29 hnc29 hnb30 hnc30 Ao32 co32 w33 gb444 w34 BK374 BK409 BK426 HB BK444 GW444 GE444 NB374_444 NB444_374 NB409_444 NB444_409 NB426_444 NB444_426 hnb35 hnc35 hnb36 hnc36 hnb37 hnc37 Ao39 co39 HO385 HO401 HO419 HO436 zq1_2 zq1_3 zq1_4 zq1_5 wc u20 u21 u22 u23 u24 u25 u26 u27 u28 u29 u30 u31 u32 u33 u34 u35 u36 u37 u38 u39 u40 u41 u42 u43 u44 u45 u46 u47 u48 u49 u50 u51 u52 u53 u54 u55 u56 u57 u58 u59 u60 u61 u62 u63 u64 u65 u66 u67 u68 u69 u70 u71 u72 u73 u74 u75 u76 u77 u78 u79 u80 u81 u82 u83 u84 u85 u86 u87 u88 u89 u90 u91 u92 u93 u94 u95 u96 u97 u98 u99 u100 u101 u102 u103 u104 u105 u106 u107 u108 u109 u110 hcut; exact hm_.out
set_option maxHeartbeats 8000000 in
set_option maxRecDepth 100000 in
noncomputable def FnExactAskReader_cut3 : PSigma (fun M_ : Prop => CutW M_ → FnExactAskReader_cut2.1) := by
   apply PSigma.mk
   case snd =>
    intro hm_
    intro k a0_0 a0_1 a0_2 a0_3 a0_4 a0_5 a0_6 A0_7 c0_7 l0_7 a0_8 a0_9 a0_10 a0_11 a0_12 a0_13 a1 a2 a3 r w hu56 hu60 HR0_7 HC0_7 HV t375 A5 t376 t377 t378 t379 t380 t381 t382 t383 t386 t387 t388 t389 t390 t391 A10 t392 t393 t394 t395 t396 t397 t398 t399 t402 t403 t404 t405 t406 t407 t408 A11 t410 t411 t412 t413 t414 t415 t416 t417 t420 t421 t422 t423 t424 t425 A12 t427 t428 t429 t430 t431 t432 t433 t434 t437 t438 t439 t440 t441 t442 t443 A13 zq2_1 gb374 w15 GW374 GE374 w17 w19 Ao20 co20 w21 gb409 w22 GW409 GE409 NB374_409 NB409_374 hnb23 hnc23 Ao25 co25 w27 gb426 w28 GW426 GE426 NB374_426 NB426_374 NB409_426 NB426_409 hnb29 hnc29 hnb30 hnc30 Ao32 co32 w33 gb444 w34 BK374 BK409 BK426 HB BK444 GW444 GE444 NB374_444 NB444_374 NB409_444 NB444_409 NB426_444 NB444_426 hnb35 hnc35 hnb36 hnc36 hnb37 hnc37 Ao39 co39 HO385 HO401 HO419 HO436 zq2_2 zq2_3 zq2_4 zq2_5 wc u20 u21 u22 u23 u24 u25 u26 u27 u28 u29 u30 u31 u32 u33 u34 u35 u36 u37 u38 u39 u40 u41 u42 u43 u44 u45 u46 u47 u48 u49 u50 u51 u52 u53 u54 u55 u56 u57 u58 u59 u60 u61 u62 u63 u64 u65 u66 u67 u68 u69 u70 u71 u72 u73 u74 u75 u76 u77 u78 u79 u80 u81 u82 u83 u84 u85 u86 u87 u88 u89 u90 u91 u92 u93 u94 u95 u96 u97 u98 u99 u100 u101 u102 u103 u104 u105 u106 u107 u108 u109 u110 hcut
    obtain ⟨kq,x52_13,rfl,HA,HJ13,HO_410007,HO_427007,HO_445007,BK374,BK409,BK426,BK444,HB⟩ := hcut
    cases kq with
    | zero => exact absurd HA.out (by simp [laws_FnExactAskReader.j0])
    | succ kj13 =>
     have H := HA.out
     clear HA
     simp only [laws_FnExactAskReader.j0] at H
     by_cases c58 : x52_13 = true
     ·subst c58
      rw [if_pos rfl] at H
      exact absurd H (by simp)
     ·replace c58 := Bool.eq_false_iff.mpr c58
      subst c58
      rw [if_neg (show ¬ (false = true) by decide)] at H
      replace H := Option.bind_eq_some_iff.mp H
      obtain ⟨⟨t446,t447,t448,t449,t450,t451,t452,t453,t456,t457,t458,t459,t460,t461⟩,A590,H⟩ := H
      try dsimp only at H
      have A59 := Aside0.mk A590
      clear A590
      replace H := Option.bind_eq_some_iff.mp H
      obtain ⟨t462,A600,H⟩ := H
      try dsimp only at H
      have A60 := Aside0.mk A600
      clear A600
      by_cases c61 : t462 = true
      ·subst c61
       rw [if_pos rfl] at H
       replace H := Option.bind_eq_some_iff.mp H
       obtain ⟨⟨t463,t464⟩,A620,H⟩ := H
       try dsimp only at H
       have A62 := Aside0.mk A620
       clear A620
       have HC63 := Aside0.mk H
       clear H
       try go_wp2
       have n0_ := Aside0.mk (Kd.R_drew HO_410007.out)
       have n1_ := Aside0.mk (Kd.R_drew HO_427007.out)
       have n2_ := Aside0.mk (Kd.R_drew HO_445007.out)
       have n3_ := Aside0.mk (blk_drew BK374.out)
       have n4_ := Aside0.mk (blk_drew BK409.out)
       have n5_ := Aside0.mk (blk_drew BK426.out)
       have n6_ := Aside0.mk (blk_drew BK444.out)
       have n7_ := Aside0.mk (below_drew1 HB.out)
       clear HO_410007
       clear HO_427007
       clear HO_445007
       clear BK374
       clear BK409
       clear BK426
       clear BK444
       clear HB
       have HO_410007 := n0_
       have HO_427007 := n1_
       have HO_445007 := n2_
       have BK374 := n3_
       have BK409 := n4_
       have BK426 := n5_
       have BK444 := n6_
       have HB := n7_
       clear n0_ n1_ n2_ n3_ n4_ n5_ n6_ n7_
       refine start_ (n:=5) (S:=fun w' => w'.cell? ⟨gb426,0,none⟩ = some (.int .i64 t410) ∧ w'.cell? ⟨gb426,1,none⟩ = some (.int .i64 t411) ∧ w'.cell? ⟨gb426,2,none⟩ = some (.int .i64 t412) ∧ w'.cell? ⟨gb426,3,none⟩ = some (.int .i64 t413) ∧ w'.cell? ⟨gb426,4,none⟩ = some (.int .i64 t414) ∧ w'.cell? ⟨gb426,5,none⟩ = some (.int .i64 t415) ∧ w'.cell? ⟨gb426,6,none⟩ = some (.int .i64 t416) ∧ w'.cell? ⟨gb426,7,none⟩ = some (.slice Ao32 t417.length co32) ∧ w'.cell? ⟨gb426,8,none⟩ = some (.int .i64 t420) ∧ w'.cell? ⟨gb426,9,none⟩ = some (.int .i64 t421) ∧ w'.cell? ⟨gb426,10,none⟩ = some (.int .i64 t422) ∧ w'.cell? ⟨gb426,11,none⟩ = some (.int .i64 t423) ∧ w'.cell? ⟨gb426,12,none⟩ = some (.int .i64 t424) ∧ w'.cell? ⟨gb426,13,none⟩ = some (.int .i64 t425) ∧ w'.cell? ⟨gb374,0,none⟩ = some (.int .i64 a0_0) ∧ w'.cell? ⟨gb374,1,none⟩ = some (.int .i64 a0_1) ∧ w'.cell? ⟨gb374,2,none⟩ = some (.int .i64 a0_2) ∧ w'.cell? ⟨gb374,3,none⟩ = some (.int .i64 a0_3) ∧ w'.cell? ⟨gb374,4,none⟩ = some (.int .i64 a0_4) ∧ w'.cell? ⟨gb374,5,none⟩ = some (.int .i64 a0_5) ∧ w'.cell? ⟨gb374,6,none⟩ = some (.int .i64 a0_6) ∧ w'.cell? ⟨gb374,7,none⟩ = some (.slice A0_7 l0_7.length c0_7) ∧ w'.cell? ⟨gb374,8,none⟩ = some (.int .i64 a0_8) ∧ w'.cell? ⟨gb374,9,none⟩ = some (.int .i64 a0_9) ∧ w'.cell? ⟨gb374,10,none⟩ = some (.int .i64 a0_10) ∧ w'.cell? ⟨gb374,11,none⟩ = some (.int .i64 a0_11) ∧ w'.cell? ⟨gb374,12,none⟩ = some (.int .i64 a0_12) ∧ w'.cell? ⟨gb374,13,none⟩ = some (.int .i64 a0_13)) (ds := []) (bm 5 0) (by kernel_rfl) rfl rfl ⟨(blk_cell BK426.out 0).trans rfl,(blk_cell BK426.out 1).trans rfl,(blk_cell BK426.out 2).trans rfl,(blk_cell BK426.out 3).trans rfl,(blk_cell BK426.out 4).trans rfl,(blk_cell BK426.out 5).trans rfl,(blk_cell BK426.out 6).trans rfl,(blk_cell BK426.out 7).trans rfl,(blk_cell BK426.out 8).trans rfl,(blk_cell BK426.out 9).trans rfl,(blk_cell BK426.out 10).trans rfl,(blk_cell BK426.out 11).trans rfl,(blk_cell BK426.out 12).trans rfl,(blk_cell BK426.out 13).trans rfl,(blk_cell BK374.out 0).trans rfl,(blk_cell BK374.out 1).trans rfl,(blk_cell BK374.out 2).trans rfl,(blk_cell BK374.out 3).trans rfl,(blk_cell BK374.out 4).trans rfl,(blk_cell BK374.out 5).trans rfl,(blk_cell BK374.out 6).trans rfl,(blk_cell BK374.out 7).trans rfl,(blk_cell BK374.out 8).trans rfl,(blk_cell BK374.out 9).trans rfl,(blk_cell BK374.out 10).trans rfl,(blk_cell BK374.out 11).trans rfl,(blk_cell BK374.out 12).trans rfl,(blk_cell BK374.out 13).trans rfl⟩ (fun hHeld => ?_)
       generalize wc.drew = w64 at HO_410007 HO_427007 HO_445007 BK374 BK409 BK426 BK444 HB hHeld ⊢
       refine take_ (i:=0) (N:=some 53) (v:=?_) (a':=?_) (bm 5 1) rfl rfl (by kernel_rfl) (fun _ _ _ h => h) (Or.inl ⟨by rfl,?_⟩) hHeld ?_ ?_
       rotate_left
       ·rintro w' ⟨s0,s1,s2,s3,s4,s5,s6,s7,s8,s9,s10,s11,s12,s13,s14,s15,s16,s17,s18,s19,s20,s21,s22,s23,s24,s25,s26,s27⟩
        go_simp
        with_reducible rfl
       rotate_left
       ·simp only [Act.put,setIfInBounds_toArray,set_cons_zero,set_cons_succ,i64_w,i32_w]
        rfl
       refine take_ (i:=1) (N:=some 54) (v:=?_) (a':=?_) (bm 5 3) rfl rfl (by kernel_rfl) (fun _ _ _ h => h) (Or.inl ⟨by rfl,?_⟩) hHeld ?_ ?_
       rotate_left
       ·rintro w' ⟨s0,s1,s2,s3,s4,s5,s6,s7,s8,s9,s10,s11,s12,s13,s14,s15,s16,s17,s18,s19,s20,s21,s22,s23,s24,s25,s26,s27⟩
        go_simp
        with_reducible rfl
       rotate_left
       ·simp only [Act.put,setIfInBounds_toArray,set_cons_zero,set_cons_succ,i64_w,i32_w]
        rfl
       refine one_ (i:=2) (N:=some 55) (bm 5 7) rfl rfl (by kernel_rfl) (by decide) (fun K hK => ?_)
       refine goes_ Tryd.func24 (by kernel_rfl) rfl #[.agg #[.int .i64 a0_0,.int .i64 a0_1,.int .i64 a0_2,.int .i64 a0_3,.int .i64 a0_4,.int .i64 a0_5,.int .i64 a0_6,.slice A0_7 l0_7.length c0_7,.int .i64 a0_8,.int .i64 a0_9,.int .i64 a0_10,.int .i64 a0_11,.int .i64 a0_12,.int .i64 a0_13]] (by rfl) rfl rfl mA ?_
       with_reducible refine (laws_toReader.calls kj13 a0_0 a0_1 a0_2 a0_3 a0_4 a0_5 a0_6 _ _ l0_7 a0_8 a0_9 a0_10 a0_11 a0_12 a0_13 t446 t447 t448 t449 t450 t451 t452 t453 t456 t457 t458 t459 t460 t461 _ ?side1 ?side2 A59.out).mono ?_
       (case side1 => repeat (first | exact (Kd.C_below HR0_7.out HB.out) | (with_reducible refine Kd.C_alloc ?_ _) | (with_reducible refine Kd.C_drewN ?_ _) | (with_reducible refine Kd.C_drew ?_)))
       (case side2 => exact HC0_7.out)
       rintro e w65 ⟨v454,rfl,ho0,hb⟩
       refine ⟨_,rfl,?_⟩
       have n0_ := Aside0.mk (Kd.R_elder' (rA HO_410007.out) (Kd.R_base ho0) hb)
       have n1_ := Aside0.mk (Kd.R_elder' (rA HO_427007.out) (Kd.R_base ho0) hb)
       have n2_ := Aside0.mk (Kd.R_elder' (rA HO_445007.out) (Kd.R_base ho0) hb)
       have n3_ := Aside0.mk (Kd.R_lower (Kd.R_new' (Kd.R_new' (Kd.R_new' ho0 (Kd.R_lt (rA HO_410007.out))) (Kd.R_lt (rA HO_427007.out))) (Kd.R_lt (rA HO_445007.out))) (below_size bA))
       have n4_ := Aside0.mk (blk_below (g:=gb374) (o:=.cells #[.int .i64 a0_0,.int .i64 a0_1,.int .i64 a0_2,.int .i64 a0_3,.int .i64 a0_4,.int .i64 a0_5,.int .i64 a0_6,.slice A0_7 l0_7.length c0_7,.int .i64 a0_8,.int .i64 a0_9,.int .i64 a0_10,.int .i64 a0_11,.int .i64 a0_12,.int .i64 a0_13] 56 (0,0)) (kA BK374.out) hb)
       have n5_ := Aside0.mk (blk_below (g:=gb409) (o:=.cells #[.int .i64 t392,.int .i64 t393,.int .i64 t394,.int .i64 t395,.int .i64 t396,.int .i64 t397,.int .i64 t398,.slice Ao25 t399.length co25,.int .i64 t402,.int .i64 t403,.int .i64 t404,.int .i64 t405,.int .i64 t406,.int .i64 t407] 60 (0,0)) (kA BK409.out) hb)
       have n6_ := Aside0.mk (blk_below (g:=gb426) (o:=.cells #[.int .i64 t410,.int .i64 t411,.int .i64 t412,.int .i64 t413,.int .i64 t414,.int .i64 t415,.int .i64 t416,.slice Ao32 t417.length co32,.int .i64 t420,.int .i64 t421,.int .i64 t422,.int .i64 t423,.int .i64 t424,.int .i64 t425] 60 (0,0)) (kA BK426.out) hb)
       have n7_ := Aside0.mk (blk_below (g:=gb444) (o:=.cells #[.int .i64 t427,.int .i64 t428,.int .i64 t429,.int .i64 t430,.int .i64 t431,.int .i64 t432,.int .i64 t433,.slice Ao39 t434.length co39,.int .i64 t437,.int .i64 t438,.int .i64 t439,.int .i64 t440,.int .i64 t441,.int .i64 t442] 60 (0,0)) (kA BK444.out) hb)
       have n8_ := Aside0.mk (below_step bA hb)
       clear HO_410007
       clear HO_427007
       clear HO_445007
       clear BK374
       clear BK409
       clear BK426
       clear BK444
       clear HB
       have HO_410007 := n0_
       have HO_427007 := n1_
       have HO_445007 := n2_
       have HO455 := n3_
       have BK374 := n4_
       have BK409 := n5_
       have BK426 := n6_
       have BK444 := n7_
       have HB := n8_
       clear n0_ n1_ n2_ n3_ n4_ n5_ n6_ n7_ n8_
       (try clear hb)
       (try clear hb2)
       (try clear hk)
       (try clear hi)
       (try clear ho0)
       obtain ⟨Ao66,co66,eo66⟩ := Kd.R_slice HO455.out
       (first | subst eo66 | (injection eo66 with f1_ f2_ f3_; have f4_ := f1_.symm; have f5_ := f3_.symm; clear f1_ f2_ f3_; subst f4_; subst f5_))
       refine hK.out _ _ ⟨(blk_cell BK426.out 0).trans rfl,(blk_cell BK426.out 1).trans rfl,(blk_cell BK426.out 2).trans rfl,(blk_cell BK426.out 3).trans rfl,(blk_cell BK426.out 4).trans rfl,(blk_cell BK426.out 5).trans rfl,(blk_cell BK426.out 6).trans rfl,(blk_cell BK426.out 7).trans rfl,(blk_cell BK426.out 8).trans rfl,(blk_cell BK426.out 9).trans rfl,(blk_cell BK426.out 10).trans rfl,(blk_cell BK426.out 11).trans rfl,(blk_cell BK426.out 12).trans rfl,(blk_cell BK426.out 13).trans rfl,(blk_cell BK374.out 0).trans rfl,(blk_cell BK374.out 1).trans rfl,(blk_cell BK374.out 2).trans rfl,(blk_cell BK374.out 3).trans rfl,(blk_cell BK374.out 4).trans rfl,(blk_cell BK374.out 5).trans rfl,(blk_cell BK374.out 6).trans rfl,(blk_cell BK374.out 7).trans rfl,(blk_cell BK374.out 8).trans rfl,(blk_cell BK374.out 9).trans rfl,(blk_cell BK374.out 10).trans rfl,(blk_cell BK374.out 11).trans rfl,(blk_cell BK374.out 12).trans rfl,(blk_cell BK374.out 13).trans rfl⟩ (fun hHeld => ?_)
       clear hK K
       refine norm_ (a':=?_) ?_ ?_
       rotate_left
       ·show Act.put _ (some 55) _ = _
        simp only [Act.put,setIfInBounds_toArray,set_cons_zero,set_cons_succ,i64_w,i32_w]
        rfl
       refine one_ (i:=3) (N:=some 56) (bm 5 15) rfl rfl (by kernel_rfl) (by decide) (fun K hK => ?_)
       refine goes_ Tryd.func26 (by kernel_rfl) rfl #[.agg #[.int .i64 t410,.int .i64 t411,.int .i64 t412,.int .i64 t413,.int .i64 t414,.int .i64 t415,.int .i64 t416,.slice Ao32 t417.length co32,.int .i64 t420,.int .i64 t421,.int .i64 t422,.int .i64 t423,.int .i64 t424,.int .i64 t425],.agg #[.int .i64 t446,.int .i64 t447,.int .i64 t448,.int .i64 t449,.int .i64 t450,.int .i64 t451,.int .i64 t452,.slice Ao66 t453.length co66,.int .i64 t456,.int .i64 t457,.int .i64 t458,.int .i64 t459,.int .i64 t460,.int .i64 t461]] (by rfl) rfl rfl mA ?_
       with_reducible refine (laws_eqReader.calls kj13 t410 t411 t412 t413 t414 t415 t416 _ _ t417 t420 t421 t422 t423 t424 t425 t446 t447 t448 t449 t450 t451 t452 _ _ t453 t456 t457 t458 t459 t460 t461 true _ ?side1 ?side2 ?side3 ?side4 A60.out).mono ?_
       (case side1 => repeat (first | exact (Kd.R_reads' HO_427007.out).2.2 | (with_reducible refine Kd.C_alloc ?_ _) | (with_reducible refine Kd.C_drewN ?_ _) | (with_reducible refine Kd.C_drew ?_)))
       (case side2 => exact (Kd.R_reads' HO_427007.out).2.1)
       (case side3 => repeat (first | exact (Kd.R_reads' HO455.out).2.2 | (with_reducible refine Kd.C_alloc ?_ _) | (with_reducible refine Kd.C_drewN ?_ _) | (with_reducible refine Kd.C_drew ?_)))
       (case side4 => exact (Kd.R_reads' HO455.out).2.1)
       rintro e w67 ⟨rfl,hb⟩
       refine ⟨_,rfl,?_⟩
       have n0_ := Aside0.mk (Kd.R_below (rA HO_410007.out) hb)
       have n1_ := Aside0.mk (Kd.R_below (rA HO_427007.out) hb)
       have n2_ := Aside0.mk (Kd.R_below (rA HO_445007.out) hb)
       have n3_ := Aside0.mk (Kd.R_below (rA HO455.out) hb)
       have n4_ := Aside0.mk (blk_below (g:=gb374) (o:=.cells #[.int .i64 a0_0,.int .i64 a0_1,.int .i64 a0_2,.int .i64 a0_3,.int .i64 a0_4,.int .i64 a0_5,.int .i64 a0_6,.slice A0_7 l0_7.length c0_7,.int .i64 a0_8,.int .i64 a0_9,.int .i64 a0_10,.int .i64 a0_11,.int .i64 a0_12,.int .i64 a0_13] 56 (0,0)) (kA BK374.out) hb)
       have n5_ := Aside0.mk (blk_below (g:=gb409) (o:=.cells #[.int .i64 t392,.int .i64 t393,.int .i64 t394,.int .i64 t395,.int .i64 t396,.int .i64 t397,.int .i64 t398,.slice Ao25 t399.length co25,.int .i64 t402,.int .i64 t403,.int .i64 t404,.int .i64 t405,.int .i64 t406,.int .i64 t407] 60 (0,0)) (kA BK409.out) hb)
       have n6_ := Aside0.mk (blk_below (g:=gb426) (o:=.cells #[.int .i64 t410,.int .i64 t411,.int .i64 t412,.int .i64 t413,.int .i64 t414,.int .i64 t415,.int .i64 t416,.slice Ao32 t417.length co32,.int .i64 t420,.int .i64 t421,.int .i64 t422,.int .i64 t423,.int .i64 t424,.int .i64 t425] 60 (0,0)) (kA BK426.out) hb)
       have n7_ := Aside0.mk (blk_below (g:=gb444) (o:=.cells #[.int .i64 t427,.int .i64 t428,.int .i64 t429,.int .i64 t430,.int .i64 t431,.int .i64 t432,.int .i64 t433,.slice Ao39 t434.length co39,.int .i64 t437,.int .i64 t438,.int .i64 t439,.int .i64 t440,.int .i64 t441,.int .i64 t442] 60 (0,0)) (kA BK444.out) hb)
       have n8_ := Aside0.mk (below_step bA hb)
       clear HO_410007
       clear HO_427007
       clear HO_445007
       clear HO455
       clear BK374
       clear BK409
       clear BK426
       clear BK444
       clear HB
       have HO_410007 := n0_
       have HO_427007 := n1_
       have HO_445007 := n2_
       have HO455 := n3_
       have BK374 := n4_
       have BK409 := n5_
       have BK426 := n6_
       have BK444 := n7_
       have HB := n8_
       clear n0_ n1_ n2_ n3_ n4_ n5_ n6_ n7_ n8_
       (try clear hb)
       (try clear hb2)
       (try clear hk)
       (try clear hi)
       refine hK.out _ _ ⟨(blk_cell BK426.out 0).trans rfl,(blk_cell BK426.out 1).trans rfl,(blk_cell BK426.out 2).trans rfl,(blk_cell BK426.out 3).trans rfl,(blk_cell BK426.out 4).trans rfl,(blk_cell BK426.out 5).trans rfl,(blk_cell BK426.out 6).trans rfl,(blk_cell BK426.out 7).trans rfl,(blk_cell BK426.out 8).trans rfl,(blk_cell BK426.out 9).trans rfl,(blk_cell BK426.out 10).trans rfl,(blk_cell BK426.out 11).trans rfl,(blk_cell BK426.out 12).trans rfl,(blk_cell BK426.out 13).trans rfl,(blk_cell BK374.out 0).trans rfl,(blk_cell BK374.out 1).trans rfl,(blk_cell BK374.out 2).trans rfl,(blk_cell BK374.out 3).trans rfl,(blk_cell BK374.out 4).trans rfl,(blk_cell BK374.out 5).trans rfl,(blk_cell BK374.out 6).trans rfl,(blk_cell BK374.out 7).trans rfl,(blk_cell BK374.out 8).trans rfl,(blk_cell BK374.out 9).trans rfl,(blk_cell BK374.out 10).trans rfl,(blk_cell BK374.out 11).trans rfl,(blk_cell BK374.out 12).trans rfl,(blk_cell BK374.out 13).trans rfl⟩ (fun hHeld => ?_)
       clear hK K
       refine norm_ (a':=?_) ?_ ?_
       rotate_left
       ·show Act.put _ (some 56) _ = _
        simp only [Act.put,setIfInBounds_toArray,set_cons_zero,set_cons_succ,i64_w,i32_w]
        rfl
       refine pure_ (i:=4) (N:=some 57) (v:=?_) (a':=?_) (bm 5 31) rfl rfl (by kernel_rfl) (fun _ _ _ h => h) (Or.inl ⟨by rfl,?_⟩) ?_ ?_
       rotate_left
       ·intro w'
        go_simp
        with_reducible rfl
       rotate_left
       ·simp only [Act.put,setIfInBounds_toArray,set_cons_zero,set_cons_succ,i64_w,i32_w]
        rfl
       refine done_ (by kernel_rfl) ?_
       have hnb68 := NB426_374.out
       have hnc68 := NB374_426.out
       have hnb69 := NB426_409.out
       have hnc69 := NB409_426.out
       have hnb70 := NB426_444.out
       have hnc70 := NB444_426.out
       have hcz71_0 : w67.cell? ⟨gb426,0,none⟩ = some (.int .i64 t410) := (blk_cell BK426.out 0).trans rfl
       have hcz71_1 : w67.cell? ⟨gb426,1,none⟩ = some (.int .i64 t411) := (blk_cell BK426.out 1).trans rfl
       have hcz71_2 : w67.cell? ⟨gb426,2,none⟩ = some (.int .i64 t412) := (blk_cell BK426.out 2).trans rfl
       have hcz71_3 : w67.cell? ⟨gb426,3,none⟩ = some (.int .i64 t413) := (blk_cell BK426.out 3).trans rfl
       have hcz71_4 : w67.cell? ⟨gb426,4,none⟩ = some (.int .i64 t414) := (blk_cell BK426.out 4).trans rfl
       have hcz71_5 : w67.cell? ⟨gb426,5,none⟩ = some (.int .i64 t415) := (blk_cell BK426.out 5).trans rfl
       have hcz71_6 : w67.cell? ⟨gb426,6,none⟩ = some (.int .i64 t416) := (blk_cell BK426.out 6).trans rfl
       have hcz71_7 : w67.cell? ⟨gb426,7,none⟩ = some (.slice Ao32 t417.length co32) := (blk_cell BK426.out 7).trans rfl
       have hcz71_8 : w67.cell? ⟨gb426,8,none⟩ = some (.int .i64 t420) := (blk_cell BK426.out 8).trans rfl
       have hcz71_9 : w67.cell? ⟨gb426,9,none⟩ = some (.int .i64 t421) := (blk_cell BK426.out 9).trans rfl
       have hcz71_10 : w67.cell? ⟨gb426,10,none⟩ = some (.int .i64 t422) := (blk_cell BK426.out 10).trans rfl
       have hcz71_11 : w67.cell? ⟨gb426,11,none⟩ = some (.int .i64 t423) := (blk_cell BK426.out 11).trans rfl
       have hcz71_12 : w67.cell? ⟨gb426,12,none⟩ = some (.int .i64 t424) := (blk_cell BK426.out 12).trans rfl
       have hcz71_13 : w67.cell? ⟨gb426,13,none⟩ = some (.int .i64 t425) := (blk_cell BK426.out 13).trans rfl
       have hfz71_0 := blk_frozen BK426.out 0
       have hfz71_1 := blk_frozen BK426.out 1
       have hfz71_2 := blk_frozen BK426.out 2
       have hfz71_3 := blk_frozen BK426.out 3
       have hfz71_4 := blk_frozen BK426.out 4
       have hfz71_5 := blk_frozen BK426.out 5
       have hfz71_6 := blk_frozen BK426.out 6
       have hfz71_7 := blk_frozen BK426.out 7
       have hfz71_8 := blk_frozen BK426.out 8
       have hfz71_9 := blk_frozen BK426.out 9
       have hfz71_10 := blk_frozen BK426.out 10
       have hfz71_11 := blk_frozen BK426.out 11
       have hfz71_12 := blk_frozen BK426.out 12
       have hfz71_13 := blk_frozen BK426.out 13
       go_upto_region 14 with (first | ((with_reducible refine gate_callee (f:=29) rfl ?_); refine goesL_ (some 60) rfl rfl Tryd.func29 (by kernel_rfl) rfl #[.agg #[.int .i64 t410,.int .i64 t411,.int .i64 t412,.int .i64 t413,.int .i64 t414,.int .i64 t415,.int .i64 t416,.slice Ao32 t417.length co32,.int .i64 t420,.int .i64 t421,.int .i64 t422,.int .i64 t423,.int .i64 t424,.int .i64 t425],.int .i64 1] rfl mA ?_; (with_reducible refine (laws_markReader.calls kj13 t410 t411 t412 t413 t414 t415 t416 (fun k_ => some k_ = (.slice Ao32 t417.length co32 : Value).ownBlock) (.slice Ao32 t417.length co32) t417 t420 t421 t422 t423 t424 t425 1 t463 t464 w _ ?side1 ?side2 A62.out).mono ?_); (case side1 => exact bA); (case side2 => exact Kd.R_tight rfl HO_427007.out); rintro e w72 ⟨rfl,hy0,hb,hkp⟩; refine ⟨_,rfl,?_⟩; have n0_ := Aside0.mk (Kd.R_mono (ok' := fun k_ => some k_ ≠ (.slice Ao32 t417.length co32 : Value).ownBlock ∧ some k_ ≠ (.slice Ao39 t434.length co39 : Value).ownBlock ∧ some k_ ≠ (.slice Ao66 t453.length co66 : Value).ownBlock) (Kd.R_keptB (HO_410007.out) hkp (fun k_ hk_ hs_ => (hk_.1.1) hs_)) (fun k_ hk_ => ⟨hk_.1.1.1,hk_.1.1.2,hk_.1.2⟩)); have n1_ := Aside0.mk (Kd.R_reok rfl hy0 (fun k_ e_ => HO_427007.out.1 k_ e_)); have n2_ := Aside0.mk (Kd.R_mono (ok' := fun k_ => some k_ ≠ (.slice Ao25 t399.length co25 : Value).ownBlock ∧ some k_ ≠ (.slice Ao32 t417.length co32 : Value).ownBlock ∧ some k_ ≠ (.slice Ao66 t453.length co66 : Value).ownBlock) (Kd.R_keptB (HO_445007.out) hkp (fun k_ hk_ hs_ => (hk_.1.2) hs_)) (fun k_ hk_ => ⟨hk_.1.1.1,hk_.1.1.2,hk_.1.2⟩)); have n3_ := Aside0.mk (blk_kept (kA BK374.out) hkp (fun hs_ => (fun e_ => (Kd.R_ne HO_427007.out BK374.out (by decide)) e_) hs_)); have n4_ := Aside0.mk (blk_kept (kA BK409.out) hkp (fun hs_ => (fun e_ => (Kd.R_ne HO_427007.out BK409.out (by decide)) e_) hs_)); have n5_ := Aside0.mk (blk_kept (kA BK426.out) hkp (fun hs_ => (fun e_ => (Kd.R_ne HO_427007.out BK426.out (by decide)) e_) hs_)); have n6_ := Aside0.mk (blk_kept (kA BK444.out) hkp (fun hs_ => (fun e_ => (Kd.R_ne HO_427007.out BK444.out (by decide)) e_) hs_)); have n7_ := Aside0.mk (Kd.R_mono (ok' := fun k_ => some k_ ≠ (.slice Ao25 t399.length co25 : Value).ownBlock ∧ some k_ ≠ (.slice Ao32 t417.length co32 : Value).ownBlock ∧ some k_ ≠ (.slice Ao39 t434.length co39 : Value).ownBlock) (Kd.R_keptB (HO455.out) hkp (fun k_ hk_ hs_ => (hk_.1.2) hs_)) (fun k_ hk_ => ⟨hk_.1.1.1.2,hk_.1.1.2,hk_.1.2⟩)); have n8_ := Aside0.mk (hb); clear HO_410007; clear HO_427007; clear HO_445007; clear BK374; clear BK409; clear BK426; clear BK444; clear HO455; clear HB; have HO_410007 := n0_; have HO_427007 := n1_; have HO_445007 := n2_; have BK374 := n3_; have BK409 := n4_; have BK426 := n5_; have BK444 := n6_; have HO455 := n7_; have HB := n8_; clear n0_ n1_ n2_ n3_ n4_ n5_ n6_ n7_ n8_; (try clear hb); (try clear hkp); (try clear hy0)))
       (try simp only [Act.put,setIfInBounds_toArray,set_cons_zero,set_cons_succ])
       rename_i zp3_1 zp3_2 zp3_3 zp3_4 zp3_5 zp3_6 zp3_7 zp3_8 zp3_9 zp3_10 zp3_11; revert k a0_0 a0_1 a0_2 a0_3 a0_4 a0_5 a0_6 A0_7 c0_7 l0_7 a0_8 a0_9 a0_10 a0_11 a0_12 a0_13 a1 a2 a3 r w hu56 hu60 HR0_7 HC0_7 HV t375 A5 t376 t377 t378 t379 t380 t381 t382 t383 t386 t387 t388 t389 t390 t391 A10 t392 t393 t394 t395 t396 t397 t398 t399 t402 t403 t404 t405 t406 t407 t408 A11 t410 t411 t412 t413 t414 t415 t416 t417 t420 t421 t422 t423 t424 t425 A12 t427 t428 t429 t430 t431 t432 t433 t434 t437 t438 t439 t440 t441 t442 t443 A13 zq2_1 gb374 w15 GW374 GE374 w17 w19 Ao20 co20 w21 gb409 w22 GW409 GE409 NB374_409 NB409_374 hnb23 hnc23 Ao25 co25 w27 gb426 w28 GW426 GE426 NB374_426 NB426_374 NB409_426 NB426_409 hnb29 hnc29 hnb30 hnc30 Ao32 co32 w33 gb444 w34 zp3_1 zp3_2 zp3_3 zp3_4 zp3_5 GW444 GE444 NB374_444 NB444_374 NB409_444 NB444_409 NB426_444 NB444_426 hnb35 hnc35 hnb36 hnc36 hnb37 hnc37 Ao39 co39 HO385 HO401 HO419 HO436 wc u20 u21 u22 u23 u24 u25 u26 u27 u28 u29 u30 u31 u32 u33 u34 u35 u36 u37 u38 u39 u40 u41 u42 u43 u44 u45 u46 u47 u48 u49 u50 u51 u53 u54 u55 u56 u57 u58 u59 u60 u61 u62 u63 u64 u65 u66 u67 u68 u69 u70 u71 u72 u73 u74 u75 u76 u77 u78 u79 u80 u81 u82 u83 u84 u85 u86 u87 u88 u89 u90 u91 u92 u93 u94 u95 u96 u97 u98 u99 u100 u101 u102 u103 u104 u105 u106 u107 u108 u109 u110 kj13 HJ13 t446 t447 t448 t449 t450 t451 t452 t453 t456 t457 t458 t459 t460 t461 A59 A60 t463 t464 A62 HC63 w64 zp3_6 w65 Ao66 co66 zp3_7 w67 hHeld hnb68 hnc68 hnb69 hnc69 hnb70 hnc70 hcz71_0 hcz71_1 hcz71_2 hcz71_3 hcz71_4 hcz71_5 hcz71_6 hcz71_7 hcz71_8 hcz71_9 hcz71_10 hcz71_11 hcz71_12 hcz71_13 hfz71_0 hfz71_1 hfz71_2 hfz71_3 hfz71_4 hfz71_5 hfz71_6 hfz71_7 hfz71_8 hfz71_9 hfz71_10 hfz71_11 hfz71_12 hfz71_13 w72 HO_410007 HO_427007 HO_445007 BK374 BK409 BK426 BK444 HO455 HB zp3_8 zp3_9 zp3_10 zp3_11; exact hm_.out
      ·replace c61 := Bool.eq_false_iff.mpr c61
       subst c61
       rw [if_neg (show ¬ (false = true) by decide)] at H
       exact absurd H (by simp)
set_option maxHeartbeats 8000000 in
set_option maxRecDepth 100000 in
noncomputable def FnExactAskReader_cut4 : PSigma (fun M_ : Prop => CutW M_ → FnExactAskReader_cut3.1) := by
      apply PSigma.mk
      case snd =>
       intro hm_
       intro k a0_0 a0_1 a0_2 a0_3 a0_4 a0_5 a0_6 A0_7 c0_7 l0_7 a0_8 a0_9 a0_10 a0_11 a0_12 a0_13 a1 a2 a3 r w hu56 hu60 HR0_7 HC0_7 HV t375 A5 t376 t377 t378 t379 t380 t381 t382 t383 t386 t387 t388 t389 t390 t391 A10 t392 t393 t394 t395 t396 t397 t398 t399 t402 t403 t404 t405 t406 t407 t408 A11 t410 t411 t412 t413 t414 t415 t416 t417 t420 t421 t422 t423 t424 t425 A12 t427 t428 t429 t430 t431 t432 t433 t434 t437 t438 t439 t440 t441 t442 t443 A13 zq3_1 gb374 w15 GW374 GE374 w17 w19 Ao20 co20 w21 gb409 w22 GW409 GE409 NB374_409 NB409_374 hnb23 hnc23 Ao25 co25 w27 gb426 w28 GW426 GE426 NB374_426 NB426_374 NB409_426 NB426_409 hnb29 hnc29 hnb30 hnc30 Ao32 co32 w33 gb444 w34 zq3_2 zq3_3 zq3_4 zq3_5 zq3_6 GW444 GE444 NB374_444 NB444_374 NB409_444 NB444_409 NB426_444 NB444_426 hnb35 hnc35 hnb36 hnc36 hnb37 hnc37 Ao39 co39 HO385 HO401 HO419 HO436 wc u20 u21 u22 u23 u24 u25 u26 u27 u28 u29 u30 u31 u32 u33 u34 u35 u36 u37 u38 u39 u40 u41 u42 u43 u44 u45 u46 u47 u48 u49 u50 u51 u53 u54 u55 u56 u57 u58 u59 u60 u61 u62 u63 u64 u65 u66 u67 u68 u69 u70 u71 u72 u73 u74 u75 u76 u77 u78 u79 u80 u81 u82 u83 u84 u85 u86 u87 u88 u89 u90 u91 u92 u93 u94 u95 u96 u97 u98 u99 u100 u101 u102 u103 u104 u105 u106 u107 u108 u109 u110 kj13 HJ13 t446 t447 t448 t449 t450 t451 t452 t453 t456 t457 t458 t459 t460 t461 A59 A60 t463 t464 A62 HC63 w64 zq3_7 w65 Ao66 co66 zq3_8 w67 hHeld hnb68 hnc68 hnb69 hnc69 hnb70 hnc70 hcz71_0 hcz71_1 hcz71_2 hcz71_3 hcz71_4 hcz71_5 hcz71_6 hcz71_7 hcz71_8 hcz71_9 hcz71_10 hcz71_11 hcz71_12 hcz71_13 hfz71_0 hfz71_1 hfz71_2 hfz71_3 hfz71_4 hfz71_5 hfz71_6 hfz71_7 hfz71_8 hfz71_9 hfz71_10 hfz71_11 hfz71_12 hfz71_13 w72 HO_410007 HO_427007 HO_445007 BK374 BK409 BK426 BK444 HO455 HB zq3_9 zq3_10 zq3_11 zq3_12
       go_cut [73] (fun v73 wc => ∃ (kq : Nat) (x73_62 : Bool),v73 = .bool x73_62 ∧ Aside0 (laws_FnExactAskReader.j1 kq a1 a2 a3 t408 x73_62 a0_0 a0_1 a0_2 a0_3 a0_4 a0_5 a0_6 l0_7 a0_8 a0_9 a0_10 a0_11 a0_12 a0_13 t392 t393 t394 t395 t396 t397 t398 t399 t402 t403 t404 t405 t406 t407 t427 t428 t429 t430 t431 t432 t433 t434 t437 t438 t439 t440 t441 t442 = some r) ∧ Aside0 (kq ≤ kj13) ∧ Aside0 (Kd.R k84 84 wc w.heap.size (fun k_ => some k_ ≠ ((.slice Ao32 t417.length co32) : Value).ownBlock ∧ some k_ ≠ ((.slice Ao39 t434.length co39) : Value).ownBlock) (.slice Ao25 t399.length co25) t399) ∧ Aside0 (Kd.R k84 84 wc w.heap.size (fun k_ => some k_ ≠ ((.slice Ao25 t399.length co25) : Value).ownBlock ∧ some k_ ≠ ((.slice Ao39 t434.length co39) : Value).ownBlock) (.slice Ao32 t417.length co32) t464) ∧ Aside0 (Kd.R k84 84 wc w.heap.size (fun k_ => some k_ ≠ ((.slice Ao25 t399.length co25) : Value).ownBlock ∧ some k_ ≠ ((.slice Ao32 t417.length co32) : Value).ownBlock) (.slice Ao39 t434.length co39) t434) ∧ Aside0 (wc.heap[gb374]? = some (.cells #[.int .i64 a0_0,.int .i64 a0_1,.int .i64 a0_2,.int .i64 a0_3,.int .i64 a0_4,.int .i64 a0_5,.int .i64 a0_6,(.slice A0_7 l0_7.length c0_7),.int .i64 a0_8,.int .i64 a0_9,.int .i64 a0_10,.int .i64 a0_11,.int .i64 a0_12,.int .i64 a0_13] 56 (0,0))) ∧ Aside0 (wc.heap[gb409]? = some (.cells #[.int .i64 t392,.int .i64 t393,.int .i64 t394,.int .i64 t395,.int .i64 t396,.int .i64 t397,.int .i64 t398,(.slice Ao25 t399.length co25),.int .i64 t402,.int .i64 t403,.int .i64 t404,.int .i64 t405,.int .i64 t406,.int .i64 t407] 60 (0,0))) ∧ Aside0 (wc.heap[gb426]? = some (.cells #[.int .i64 t410,.int .i64 t411,.int .i64 t412,.int .i64 t413,.int .i64 t414,.int .i64 t415,.int .i64 t416,(.slice Ao32 t417.length co32),.int .i64 t420,.int .i64 t421,.int .i64 t422,.int .i64 t423,.int .i64 t424,.int .i64 t425] 60 (0,0))) ∧ Aside0 (wc.heap[gb444]? = some (.cells #[.int .i64 t427,.int .i64 t428,.int .i64 t429,.int .i64 t430,.int .i64 t431,.int .i64 t432,.int .i64 t433,(.slice Ao39 t434.length co39),.int .i64 t437,.int .i64 t438,.int .i64 t439,.int .i64 t440,.int .i64 t441,.int .i64 t442] 60 (0,0))) ∧ Aside0 (Below w.heap.size w wc))
       case first =>
        have H := HC63.out
        clear HC63
        by_cases c73 : t463 < 0
        ·rw [if_pos c73] at H
         have c73b0 : decide (t463 < 0) = true := decide_eq_true c73
         clear c73
         (first | rw [c73b0] | (simp only [i64_w,i32_w]; rw [c73b0]) | skip)
         have H' := Aside0.mk H
         clear H
         go_wp2
         go_meet
         case rel => exact ⟨_,(true),(by first | rfl | (simp; done) | (simp [*]; done)),H',⟨by have := HJ13.out; first | omega | exact Nat.le_refl _⟩,⟨by (with_reducible repeat (first | apply Kd.R_alloc | apply Kd.R_drewN | apply Kd.R_drew)); exact Kd.R_mono HO_410007.out (fun _ hk => ⟨hk.1,hk.2.1⟩)⟩,⟨by (with_reducible repeat (first | apply Kd.R_alloc | apply Kd.R_drewN | apply Kd.R_drew)); exact Kd.R_mono HO_427007.out (fun _ hk => ⟨hk.1.1,hk.1.2⟩)⟩,⟨by (with_reducible repeat (first | apply Kd.R_alloc | apply Kd.R_drewN | apply Kd.R_drew)); exact Kd.R_mono HO_445007.out (fun _ hk => ⟨hk.1,hk.2.1⟩)⟩,⟨kA BK374.out⟩,⟨kA BK409.out⟩,⟨kA BK426.out⟩,⟨kA BK444.out⟩,⟨bA⟩⟩
        ·rw [if_neg c73] at H
         have c73b0 : decide (t463 < 0) = false := decide_eq_false c73
         clear c73
         (first | rw [c73b0] | (simp only [i64_w,i32_w]; rw [c73b0]) | skip)
         replace H := Option.bind_eq_some_iff.mp H
         obtain ⟨t465,A740,H⟩ := H
         try dsimp only at H
         have A74 := Aside0.mk A740
         clear A740
         by_cases c75 : t465 = true
         ·subst c75
          rw [if_pos rfl] at H
          have H' := Aside0.mk H
          clear H
          have hnb76 := NB444_374.out
          have hnc76 := NB374_444.out
          have hnb77 := NB444_409.out
          have hnc77 := NB409_444.out
          have hnb78 := NB444_426.out
          have hnc78 := NB426_444.out
          have hcz79_0 : w72.cell? ⟨gb444,0,none⟩ = some (.int .i64 t427) := (blk_cell BK444.out 0).trans rfl
          have hcz79_1 : w72.cell? ⟨gb444,1,none⟩ = some (.int .i64 t428) := (blk_cell BK444.out 1).trans rfl
          have hcz79_2 : w72.cell? ⟨gb444,2,none⟩ = some (.int .i64 t429) := (blk_cell BK444.out 2).trans rfl
          have hcz79_3 : w72.cell? ⟨gb444,3,none⟩ = some (.int .i64 t430) := (blk_cell BK444.out 3).trans rfl
          have hcz79_4 : w72.cell? ⟨gb444,4,none⟩ = some (.int .i64 t431) := (blk_cell BK444.out 4).trans rfl
          have hcz79_5 : w72.cell? ⟨gb444,5,none⟩ = some (.int .i64 t432) := (blk_cell BK444.out 5).trans rfl
          have hcz79_6 : w72.cell? ⟨gb444,6,none⟩ = some (.int .i64 t433) := (blk_cell BK444.out 6).trans rfl
          have hcz79_7 : w72.cell? ⟨gb444,7,none⟩ = some (.slice Ao39 t434.length co39) := (blk_cell BK444.out 7).trans rfl
          have hcz79_8 : w72.cell? ⟨gb444,8,none⟩ = some (.int .i64 t437) := (blk_cell BK444.out 8).trans rfl
          have hcz79_9 : w72.cell? ⟨gb444,9,none⟩ = some (.int .i64 t438) := (blk_cell BK444.out 9).trans rfl
          have hcz79_10 : w72.cell? ⟨gb444,10,none⟩ = some (.int .i64 t439) := (blk_cell BK444.out 10).trans rfl
          have hcz79_11 : w72.cell? ⟨gb444,11,none⟩ = some (.int .i64 t440) := (blk_cell BK444.out 11).trans rfl
          have hcz79_12 : w72.cell? ⟨gb444,12,none⟩ = some (.int .i64 t441) := (blk_cell BK444.out 12).trans rfl
          have hcz79_13 : w72.cell? ⟨gb444,13,none⟩ = some (.int .i64 t442) := (blk_cell BK444.out 13).trans rfl
          have hfz79_0 := blk_frozen BK444.out 0
          have hfz79_1 := blk_frozen BK444.out 1
          have hfz79_2 := blk_frozen BK444.out 2
          have hfz79_3 := blk_frozen BK444.out 3
          have hfz79_4 := blk_frozen BK444.out 4
          have hfz79_5 := blk_frozen BK444.out 5
          have hfz79_6 := blk_frozen BK444.out 6
          have hfz79_7 := blk_frozen BK444.out 7
          have hfz79_8 := blk_frozen BK444.out 8
          have hfz79_9 := blk_frozen BK444.out 9
          have hfz79_10 := blk_frozen BK444.out 10
          have hfz79_11 := blk_frozen BK444.out 11
          have hfz79_12 := blk_frozen BK444.out 12
          have hfz79_13 := blk_frozen BK444.out 13
          have hnb80 := NB409_374.out
          have hnc80 := NB374_409.out
          have hnb81 := NB409_426.out
          have hnc81 := NB426_409.out
          have hcz82_0 : w72.cell? ⟨gb409,0,none⟩ = some (.int .i64 t392) := (blk_cell BK409.out 0).trans rfl
          have hcz82_1 : w72.cell? ⟨gb409,1,none⟩ = some (.int .i64 t393) := (blk_cell BK409.out 1).trans rfl
          have hcz82_2 : w72.cell? ⟨gb409,2,none⟩ = some (.int .i64 t394) := (blk_cell BK409.out 2).trans rfl
          have hcz82_3 : w72.cell? ⟨gb409,3,none⟩ = some (.int .i64 t395) := (blk_cell BK409.out 3).trans rfl
          have hcz82_4 : w72.cell? ⟨gb409,4,none⟩ = some (.int .i64 t396) := (blk_cell BK409.out 4).trans rfl
          have hcz82_5 : w72.cell? ⟨gb409,5,none⟩ = some (.int .i64 t397) := (blk_cell BK409.out 5).trans rfl
          have hcz82_6 : w72.cell? ⟨gb409,6,none⟩ = some (.int .i64 t398) := (blk_cell BK409.out 6).trans rfl
          have hcz82_7 : w72.cell? ⟨gb409,7,none⟩ = some (.slice Ao25 t399.length co25) := (blk_cell BK409.out 7).trans rfl
          have hcz82_8 : w72.cell? ⟨gb409,8,none⟩ = some (.int .i64 t402) := (blk_cell BK409.out 8).trans rfl
          have hcz82_9 : w72.cell? ⟨gb409,9,none⟩ = some (.int .i64 t403) := (blk_cell BK409.out 9).trans rfl
          have hcz82_10 : w72.cell? ⟨gb409,10,none⟩ = some (.int .i64 t404) := (blk_cell BK409.out 10).trans rfl
          have hcz82_11 : w72.cell? ⟨gb409,11,none⟩ = some (.int .i64 t405) := (blk_cell BK409.out 11).trans rfl
          have hcz82_12 : w72.cell? ⟨gb409,12,none⟩ = some (.int .i64 t406) := (blk_cell BK409.out 12).trans rfl
          have hcz82_13 : w72.cell? ⟨gb409,13,none⟩ = some (.int .i64 t407) := (blk_cell BK409.out 13).trans rfl
          have hfz82_0 := blk_frozen BK409.out 0
          have hfz82_1 := blk_frozen BK409.out 1
          have hfz82_2 := blk_frozen BK409.out 2
          have hfz82_3 := blk_frozen BK409.out 3
          have hfz82_4 := blk_frozen BK409.out 4
          have hfz82_5 := blk_frozen BK409.out 5
          have hfz82_6 := blk_frozen BK409.out 6
          have hfz82_7 := blk_frozen BK409.out 7
          have hfz82_8 := blk_frozen BK409.out 8
          have hfz82_9 := blk_frozen BK409.out 9
          have hfz82_10 := blk_frozen BK409.out 10
          have hfz82_11 := blk_frozen BK409.out 11
          have hfz82_12 := blk_frozen BK409.out 12
          have hfz82_13 := blk_frozen BK409.out 13
          go_wp2_with (first | (go_at_call 26; (with_reducible refine (laws_eqReader.calls kj13 t427 t428 t429 t430 t431 t432 t433 _ _ t434 t437 t438 t439 t440 t441 t442 t392 t393 t394 t395 t396 t397 t398 _ _ t399 t402 t403 t404 t405 t406 t407 true _ ?side1 ?side2 ?side3 ?side4 A74.out).mono ?_); (case side1 => repeat (first | exact (Kd.R_reads' HO_445007.out).2.2 | (with_reducible refine Kd.C_alloc ?_ _) | (with_reducible refine Kd.C_drewN ?_ _) | (with_reducible refine Kd.C_drew ?_))); (case side2 => exact (Kd.R_reads' HO_445007.out).2.1); (case side3 => repeat (first | exact (Kd.R_reads' HO_410007.out).2.2 | (with_reducible refine Kd.C_alloc ?_ _) | (with_reducible refine Kd.C_drewN ?_ _) | (with_reducible refine Kd.C_drew ?_))); (case side4 => exact (Kd.R_reads' HO_410007.out).2.1); rintro e w83 ⟨rfl,hb⟩; have n0_ := Aside0.mk (Kd.R_below (rA HO_410007.out) hb); have n1_ := Aside0.mk (Kd.R_below (rA HO_427007.out) hb); have n2_ := Aside0.mk (Kd.R_below (rA HO_445007.out) hb); have n3_ := Aside0.mk (Kd.R_below (rA HO455.out) hb); have n4_ := Aside0.mk (blk_below (g:=gb374) (o:=.cells #[.int .i64 a0_0,.int .i64 a0_1,.int .i64 a0_2,.int .i64 a0_3,.int .i64 a0_4,.int .i64 a0_5,.int .i64 a0_6,.slice A0_7 l0_7.length c0_7,.int .i64 a0_8,.int .i64 a0_9,.int .i64 a0_10,.int .i64 a0_11,.int .i64 a0_12,.int .i64 a0_13] 56 (0,0)) (kA BK374.out) hb); have n5_ := Aside0.mk (blk_below (g:=gb409) (o:=.cells #[.int .i64 t392,.int .i64 t393,.int .i64 t394,.int .i64 t395,.int .i64 t396,.int .i64 t397,.int .i64 t398,.slice Ao25 t399.length co25,.int .i64 t402,.int .i64 t403,.int .i64 t404,.int .i64 t405,.int .i64 t406,.int .i64 t407] 60 (0,0)) (kA BK409.out) hb); have n6_ := Aside0.mk (blk_below (g:=gb426) (o:=.cells #[.int .i64 t410,.int .i64 t411,.int .i64 t412,.int .i64 t413,.int .i64 t414,.int .i64 t415,.int .i64 t416,.slice Ao32 t417.length co32,.int .i64 t420,.int .i64 t421,.int .i64 t422,.int .i64 t423,.int .i64 t424,.int .i64 t425] 60 (0,0)) (kA BK426.out) hb); have n7_ := Aside0.mk (blk_below (g:=gb444) (o:=.cells #[.int .i64 t427,.int .i64 t428,.int .i64 t429,.int .i64 t430,.int .i64 t431,.int .i64 t432,.int .i64 t433,.slice Ao39 t434.length co39,.int .i64 t437,.int .i64 t438,.int .i64 t439,.int .i64 t440,.int .i64 t441,.int .i64 t442] 60 (0,0)) (kA BK444.out) hb); have n8_ := Aside0.mk (below_step bA hb); clear HO_410007; clear HO_427007; clear HO_445007; clear HO455; clear BK374; clear BK409; clear BK426; clear BK444; clear HB; have HO_410007 := n0_; have HO_427007 := n1_; have HO_445007 := n2_; have HO455 := n3_; have BK374 := n4_; have BK409 := n5_; have BK426 := n6_; have BK444 := n7_; have HB := n8_; clear n0_ n1_ n2_ n3_ n4_ n5_ n6_ n7_ n8_; (try clear hb); (try clear hb2); (try clear hk); (try clear hi)))
          go_meet
          case rel => exact ⟨_,((t443 != t408)),(by first | rfl | (simp; done) | (simp [*]; done)),H',⟨by have := HJ13.out; first | omega | exact Nat.le_refl _⟩,⟨by (with_reducible repeat (first | apply Kd.R_alloc | apply Kd.R_drewN | apply Kd.R_drew)); exact Kd.R_mono HO_410007.out (fun _ hk => ⟨hk.1,hk.2.1⟩)⟩,⟨by (with_reducible repeat (first | apply Kd.R_alloc | apply Kd.R_drewN | apply Kd.R_drew)); exact Kd.R_mono HO_427007.out (fun _ hk => ⟨hk.1.1,hk.1.2⟩)⟩,⟨by (with_reducible repeat (first | apply Kd.R_alloc | apply Kd.R_drewN | apply Kd.R_drew)); exact Kd.R_mono HO_445007.out (fun _ hk => ⟨hk.1,hk.2.1⟩)⟩,⟨kA BK374.out⟩,⟨kA BK409.out⟩,⟨kA BK426.out⟩,⟨kA BK444.out⟩,⟨bA⟩⟩
         ·replace c75 := Bool.eq_false_iff.mpr c75
          subst c75
          rw [if_neg (show ¬ (false = true) by decide)] at H
          have H' := Aside0.mk H
          clear H
          have hnb84 := NB444_374.out
          have hnc84 := NB374_444.out
          have hnb85 := NB444_409.out
          have hnc85 := NB409_444.out
          have hnb86 := NB444_426.out
          have hnc86 := NB426_444.out
          have hcz87_0 : w72.cell? ⟨gb444,0,none⟩ = some (.int .i64 t427) := (blk_cell BK444.out 0).trans rfl
          have hcz87_1 : w72.cell? ⟨gb444,1,none⟩ = some (.int .i64 t428) := (blk_cell BK444.out 1).trans rfl
          have hcz87_2 : w72.cell? ⟨gb444,2,none⟩ = some (.int .i64 t429) := (blk_cell BK444.out 2).trans rfl
          have hcz87_3 : w72.cell? ⟨gb444,3,none⟩ = some (.int .i64 t430) := (blk_cell BK444.out 3).trans rfl
          have hcz87_4 : w72.cell? ⟨gb444,4,none⟩ = some (.int .i64 t431) := (blk_cell BK444.out 4).trans rfl
          have hcz87_5 : w72.cell? ⟨gb444,5,none⟩ = some (.int .i64 t432) := (blk_cell BK444.out 5).trans rfl
          have hcz87_6 : w72.cell? ⟨gb444,6,none⟩ = some (.int .i64 t433) := (blk_cell BK444.out 6).trans rfl
          have hcz87_7 : w72.cell? ⟨gb444,7,none⟩ = some (.slice Ao39 t434.length co39) := (blk_cell BK444.out 7).trans rfl
          have hcz87_8 : w72.cell? ⟨gb444,8,none⟩ = some (.int .i64 t437) := (blk_cell BK444.out 8).trans rfl
          have hcz87_9 : w72.cell? ⟨gb444,9,none⟩ = some (.int .i64 t438) := (blk_cell BK444.out 9).trans rfl
          have hcz87_10 : w72.cell? ⟨gb444,10,none⟩ = some (.int .i64 t439) := (blk_cell BK444.out 10).trans rfl
          have hcz87_11 : w72.cell? ⟨gb444,11,none⟩ = some (.int .i64 t440) := (blk_cell BK444.out 11).trans rfl
          have hcz87_12 : w72.cell? ⟨gb444,12,none⟩ = some (.int .i64 t441) := (blk_cell BK444.out 12).trans rfl
          have hcz87_13 : w72.cell? ⟨gb444,13,none⟩ = some (.int .i64 t442) := (blk_cell BK444.out 13).trans rfl
          have hfz87_0 := blk_frozen BK444.out 0
          have hfz87_1 := blk_frozen BK444.out 1
          have hfz87_2 := blk_frozen BK444.out 2
          have hfz87_3 := blk_frozen BK444.out 3
          have hfz87_4 := blk_frozen BK444.out 4
          have hfz87_5 := blk_frozen BK444.out 5
          have hfz87_6 := blk_frozen BK444.out 6
          have hfz87_7 := blk_frozen BK444.out 7
          have hfz87_8 := blk_frozen BK444.out 8
          have hfz87_9 := blk_frozen BK444.out 9
          have hfz87_10 := blk_frozen BK444.out 10
          have hfz87_11 := blk_frozen BK444.out 11
          have hfz87_12 := blk_frozen BK444.out 12
          have hfz87_13 := blk_frozen BK444.out 13
          have hnb88 := NB409_374.out
          have hnc88 := NB374_409.out
          have hnb89 := NB409_426.out
          have hnc89 := NB426_409.out
          have hcz90_0 : w72.cell? ⟨gb409,0,none⟩ = some (.int .i64 t392) := (blk_cell BK409.out 0).trans rfl
          have hcz90_1 : w72.cell? ⟨gb409,1,none⟩ = some (.int .i64 t393) := (blk_cell BK409.out 1).trans rfl
          have hcz90_2 : w72.cell? ⟨gb409,2,none⟩ = some (.int .i64 t394) := (blk_cell BK409.out 2).trans rfl
          have hcz90_3 : w72.cell? ⟨gb409,3,none⟩ = some (.int .i64 t395) := (blk_cell BK409.out 3).trans rfl
          have hcz90_4 : w72.cell? ⟨gb409,4,none⟩ = some (.int .i64 t396) := (blk_cell BK409.out 4).trans rfl
          have hcz90_5 : w72.cell? ⟨gb409,5,none⟩ = some (.int .i64 t397) := (blk_cell BK409.out 5).trans rfl
          have hcz90_6 : w72.cell? ⟨gb409,6,none⟩ = some (.int .i64 t398) := (blk_cell BK409.out 6).trans rfl
          have hcz90_7 : w72.cell? ⟨gb409,7,none⟩ = some (.slice Ao25 t399.length co25) := (blk_cell BK409.out 7).trans rfl
          have hcz90_8 : w72.cell? ⟨gb409,8,none⟩ = some (.int .i64 t402) := (blk_cell BK409.out 8).trans rfl
          have hcz90_9 : w72.cell? ⟨gb409,9,none⟩ = some (.int .i64 t403) := (blk_cell BK409.out 9).trans rfl
          have hcz90_10 : w72.cell? ⟨gb409,10,none⟩ = some (.int .i64 t404) := (blk_cell BK409.out 10).trans rfl
          have hcz90_11 : w72.cell? ⟨gb409,11,none⟩ = some (.int .i64 t405) := (blk_cell BK409.out 11).trans rfl
          have hcz90_12 : w72.cell? ⟨gb409,12,none⟩ = some (.int .i64 t406) := (blk_cell BK409.out 12).trans rfl
          have hcz90_13 : w72.cell? ⟨gb409,13,none⟩ = some (.int .i64 t407) := (blk_cell BK409.out 13).trans rfl
          have hfz90_0 := blk_frozen BK409.out 0
          have hfz90_1 := blk_frozen BK409.out 1
          have hfz90_2 := blk_frozen BK409.out 2
          have hfz90_3 := blk_frozen BK409.out 3
          have hfz90_4 := blk_frozen BK409.out 4
          have hfz90_5 := blk_frozen BK409.out 5
          have hfz90_6 := blk_frozen BK409.out 6
          have hfz90_7 := blk_frozen BK409.out 7
          have hfz90_8 := blk_frozen BK409.out 8
          have hfz90_9 := blk_frozen BK409.out 9
          have hfz90_10 := blk_frozen BK409.out 10
          have hfz90_11 := blk_frozen BK409.out 11
          have hfz90_12 := blk_frozen BK409.out 12
          have hfz90_13 := blk_frozen BK409.out 13
          go_wp2_with (first | (go_at_call 26; (with_reducible refine (laws_eqReader.calls kj13 t427 t428 t429 t430 t431 t432 t433 _ _ t434 t437 t438 t439 t440 t441 t442 t392 t393 t394 t395 t396 t397 t398 _ _ t399 t402 t403 t404 t405 t406 t407 false _ ?side1 ?side2 ?side3 ?side4 A74.out).mono ?_); (case side1 => repeat (first | exact (Kd.R_reads' HO_445007.out).2.2 | (with_reducible refine Kd.C_alloc ?_ _) | (with_reducible refine Kd.C_drewN ?_ _) | (with_reducible refine Kd.C_drew ?_))); (case side2 => exact (Kd.R_reads' HO_445007.out).2.1); (case side3 => repeat (first | exact (Kd.R_reads' HO_410007.out).2.2 | (with_reducible refine Kd.C_alloc ?_ _) | (with_reducible refine Kd.C_drewN ?_ _) | (with_reducible refine Kd.C_drew ?_))); (case side4 => exact (Kd.R_reads' HO_410007.out).2.1); rintro e w91 ⟨rfl,hb⟩; have n0_ := Aside0.mk (Kd.R_below (rA HO_410007.out) hb); have n1_ := Aside0.mk (Kd.R_below (rA HO_427007.out) hb); have n2_ := Aside0.mk (Kd.R_below (rA HO_445007.out) hb); have n3_ := Aside0.mk (Kd.R_below (rA HO455.out) hb); have n4_ := Aside0.mk (blk_below (g:=gb374) (o:=.cells #[.int .i64 a0_0,.int .i64 a0_1,.int .i64 a0_2,.int .i64 a0_3,.int .i64 a0_4,.int .i64 a0_5,.int .i64 a0_6,.slice A0_7 l0_7.length c0_7,.int .i64 a0_8,.int .i64 a0_9,.int .i64 a0_10,.int .i64 a0_11,.int .i64 a0_12,.int .i64 a0_13] 56 (0,0)) (kA BK374.out) hb); have n5_ := Aside0.mk (blk_below (g:=gb409) (o:=.cells #[.int .i64 t392,.int .i64 t393,.int .i64 t394,.int .i64 t395,.int .i64 t396,.int .i64 t397,.int .i64 t398,.slice Ao25 t399.length co25,.int .i64 t402,.int .i64 t403,.int .i64 t404,.int .i64 t405,.int .i64 t406,.int .i64 t407] 60 (0,0)) (kA BK409.out) hb); have n6_ := Aside0.mk (blk_below (g:=gb426) (o:=.cells #[.int .i64 t410,.int .i64 t411,.int .i64 t412,.int .i64 t413,.int .i64 t414,.int .i64 t415,.int .i64 t416,.slice Ao32 t417.length co32,.int .i64 t420,.int .i64 t421,.int .i64 t422,.int .i64 t423,.int .i64 t424,.int .i64 t425] 60 (0,0)) (kA BK426.out) hb); have n7_ := Aside0.mk (blk_below (g:=gb444) (o:=.cells #[.int .i64 t427,.int .i64 t428,.int .i64 t429,.int .i64 t430,.int .i64 t431,.int .i64 t432,.int .i64 t433,.slice Ao39 t434.length co39,.int .i64 t437,.int .i64 t438,.int .i64 t439,.int .i64 t440,.int .i64 t441,.int .i64 t442] 60 (0,0)) (kA BK444.out) hb); have n8_ := Aside0.mk (below_step bA hb); clear HO_410007; clear HO_427007; clear HO_445007; clear HO455; clear BK374; clear BK409; clear BK426; clear BK444; clear HB; have HO_410007 := n0_; have HO_427007 := n1_; have HO_445007 := n2_; have HO455 := n3_; have BK374 := n4_; have BK409 := n5_; have BK426 := n6_; have BK444 := n7_; have HB := n8_; clear n0_ n1_ n2_ n3_ n4_ n5_ n6_ n7_ n8_; (try clear hb); (try clear hb2); (try clear hk); (try clear hi)))
          go_meet
          case rel => exact ⟨_,(true),(by first | rfl | (simp; done) | (simp [*]; done)),H',⟨by have := HJ13.out; first | omega | exact Nat.le_refl _⟩,⟨by (with_reducible repeat (first | apply Kd.R_alloc | apply Kd.R_drewN | apply Kd.R_drew)); exact Kd.R_mono HO_410007.out (fun _ hk => ⟨hk.1,hk.2.1⟩)⟩,⟨by (with_reducible repeat (first | apply Kd.R_alloc | apply Kd.R_drewN | apply Kd.R_drew)); exact Kd.R_mono HO_427007.out (fun _ hk => ⟨hk.1.1,hk.1.2⟩)⟩,⟨by (with_reducible repeat (first | apply Kd.R_alloc | apply Kd.R_drewN | apply Kd.R_drew)); exact Kd.R_mono HO_445007.out (fun _ hk => ⟨hk.1,hk.2.1⟩)⟩,⟨kA BK374.out⟩,⟨kA BK409.out⟩,⟨kA BK426.out⟩,⟨kA BK444.out⟩,⟨bA⟩⟩
       case rest =>
        clear HC63
        try clear c2
        try clear p2
        try clear c5
        try clear c6
        try clear c7
        try clear c8
        try clear c24
        try clear c26
        try clear c29
        try clear c58
        try clear c61
        try clear c68
        try clear c69
        try clear c70
        try clear c73
        try clear c73b0
        try clear c75
        try clear c76
        try clear c77
        try clear c78
        try clear c80
        try clear c81
        try clear c84
        try clear c85
        try clear c86
        try clear c88
        try clear c89
        try clear hcz53_11
        try clear hcz53_12
        try clear hcz53_13
        try clear hcz53_2
        try clear hcz53_3
        try clear hcz53_4
        try clear hcz53_5
        try clear hcz53_6
        try clear hcz53_7
        try clear hcz53_8
        try clear hcz53_9
        try clear hcz56_0
        try clear hcz56_1
        try clear hcz56_10
        try clear hcz56_11
        try clear hcz56_12
        try clear hcz56_13
        try clear hcz56_2
        try clear hcz56_3
        try clear hcz56_4
        try clear hcz56_5
        try clear hcz56_6
        try clear hcz56_7
        try clear hcz56_8
        try clear hcz56_9
        try clear hcz71_0
        try clear hcz71_1
        try clear hcz71_10
        try clear hcz71_11
        try clear hcz71_12
        try clear hcz71_13
        try clear hcz71_2
        try clear hcz71_3
        try clear hcz71_4
        try clear hcz71_5
        try clear hcz71_6
        try clear hcz71_7
        try clear hcz71_8
        try clear hcz71_9
        try clear hcz79_0
        try clear hcz79_1
        try clear hcz79_10
        try clear hcz79_11
        try clear hcz79_12
        try clear hcz79_13
        try clear hcz79_2
        try clear hcz79_3
        try clear hcz79_4
        try clear hcz79_5
        try clear hcz79_6
        try clear hcz79_7
        try clear hcz79_8
        try clear hcz79_9
        try clear hcz82_0
        try clear hcz82_1
        try clear hcz82_10
        try clear hcz82_11
        try clear hcz82_12
        try clear hcz82_13
        try clear hcz82_2
        try clear hcz82_3
        try clear hcz82_4
        try clear hcz82_5
        try clear hcz82_6
        try clear hcz82_7
        try clear hcz82_8
        try clear hcz82_9
        try clear hcz87_0
        try clear hcz87_1
        try clear hcz87_10
        try clear hcz87_11
        try clear hcz87_12
        try clear hcz87_13
        try clear hcz87_2
        try clear hcz87_3
        try clear hcz87_4
        try clear hcz87_5
        try clear hcz87_6
        try clear hcz87_7
        try clear hcz87_8
        try clear hcz87_9
        try clear hcz8_0
        try clear hcz8_1
        try clear hcz8_10
        try clear hcz8_11
        try clear hcz8_12
        try clear hcz8_13
        try clear hcz8_2
        try clear hcz8_3
        try clear hcz8_4
        try clear hcz8_5
        try clear hcz8_6
        try clear hcz8_7
        try clear hcz8_8
        try clear hcz8_9
        try clear hcz90_0
        try clear hcz90_1
        try clear hcz90_10
        try clear hcz90_11
        try clear hcz90_12
        try clear hcz90_13
        try clear hcz90_2
        try clear hcz90_3
        try clear hcz90_4
        try clear hcz90_5
        try clear hcz90_6
        try clear hcz90_7
        try clear hcz90_8
        try clear hcz90_9
        try clear hfz16_0
        try clear hfz16_1
        try clear hfz16_10
        try clear hfz16_11
        try clear hfz16_12
        try clear hfz16_13
        try clear hfz16_2
        try clear hfz16_3
        try clear hfz16_4
        try clear hfz16_5
        try clear hfz16_6
        try clear hfz16_7
        try clear hfz16_8
        try clear hfz16_9
        try clear hfz18_0
        try clear hfz18_1
        try clear hfz18_10
        try clear hfz18_11
        try clear hfz18_12
        try clear hfz18_13
        try clear hfz18_2
        try clear hfz18_3
        try clear hfz18_4
        try clear hfz18_5
        try clear hfz18_6
        try clear hfz18_7
        try clear hfz18_8
        try clear hfz18_9
        try clear hfz24_0
        try clear hfz24_1
        try clear hfz24_10
        try clear hfz24_11
        try clear hfz24_12
        try clear hfz24_13
        try clear hfz24_2
        try clear hfz24_3
        try clear hfz24_4
        try clear hfz24_5
        try clear hfz24_6
        try clear hfz24_7
        try clear hfz24_8
        try clear hfz24_9
        try clear hfz26_0
        try clear hfz26_1
        try clear hfz26_10
        try clear hfz26_11
        try clear hfz26_12
        try clear hfz26_13
        try clear hfz26_2
        try clear hfz26_3
        try clear hfz26_4
        try clear hfz26_5
        try clear hfz26_6
        try clear hfz26_7
        try clear hfz26_8
        try clear hfz26_9
        try clear hfz31_0
        try clear hfz31_1
        try clear hfz31_10
        try clear hfz31_11
        try clear hfz31_12
        try clear hfz31_13
        try clear hfz31_2
        try clear hfz31_3
        try clear hfz31_4
        try clear hfz31_5
        try clear hfz31_6
        try clear hfz31_7
        try clear hfz31_8
        try clear hfz31_9
        try clear hfz38_0
        try clear hfz38_1
        try clear hfz38_10
        try clear hfz38_11
        try clear hfz38_12
        try clear hfz38_13
        try clear hfz38_2
        try clear hfz38_3
        try clear hfz38_4
        try clear hfz38_5
        try clear hfz38_6
        try clear hfz38_7
        try clear hfz38_8
        try clear hfz38_9
        try clear hfz45_0
        try clear hfz45_1
        try clear hfz45_10
        try clear hfz45_11
        try clear hfz45_12
        try clear hfz45_13
        try clear hfz45_2
        try clear hfz45_3
        try clear hfz45_4
        try clear hfz45_5
        try clear hfz45_6
        try clear hfz45_7
        try clear hfz45_8
        try clear hfz45_9
        try clear hfz48_0
        try clear hfz48_1
        try clear hfz48_10
        try clear hfz48_11
        try clear hfz48_12
        try clear hfz48_13
        try clear hfz48_2
        try clear hfz48_3
        try clear hfz48_4
        try clear hfz48_5
        try clear hfz48_6
        try clear hfz48_7
        try clear hfz48_8
        try clear hfz48_9
        try clear hfz53_0
        try clear hfz53_1
        try clear hfz53_10
        try clear hfz53_11
        try clear hfz53_12
        try clear hfz53_13
        try clear hfz53_2
        try clear hfz53_3
        try clear hfz53_4
        try clear hfz53_5
        try clear hfz53_6
        try clear hfz53_7
        try clear hfz53_8
        try clear hfz53_9
        try clear hfz56_0
        try clear hfz56_1
        try clear hfz56_10
        try clear hfz56_11
        try clear hfz56_12
        try clear hfz56_13
        try clear hfz56_2
        try clear hfz56_3
        try clear hfz56_4
        try clear hfz56_5
        try clear hfz56_6
        try clear hfz56_7
        try clear hfz56_8
        try clear hfz56_9
        try clear hfz71_0
        try clear hfz71_1
        try clear hfz71_10
        try clear hfz71_11
        try clear hfz71_12
        try clear hfz71_13
        try clear hfz71_2
        try clear hfz71_3
        try clear hfz71_4
        try clear hfz71_5
        try clear hfz71_6
        try clear hfz71_7
        try clear hfz71_8
        try clear hfz71_9
        try clear hfz79_0
        try clear hfz79_1
        try clear hfz79_10
        try clear hfz79_11
        try clear hfz79_12
        try clear hfz79_13
        try clear hfz79_2
        try clear hfz79_3
        try clear hfz79_4
        try clear hfz79_5
        try clear hfz79_6
        try clear hfz79_7
        try clear hfz79_8
        try clear hfz79_9
        try clear hfz82_0
        try clear hfz82_1
        try clear hfz82_10
        try clear hfz82_11
        try clear hfz82_12
        try clear hfz82_13
        try clear hfz82_2
        try clear hfz82_3
        try clear hfz82_4
        try clear hfz82_5
        try clear hfz82_6
        try clear hfz82_7
        try clear hfz82_8
        try clear hfz82_9
        try clear hfz87_0
        try clear hfz87_1
        try clear hfz87_10
        try clear hfz87_11
        try clear hfz87_12
        try clear hfz87_13
        try clear hfz87_2
        try clear hfz87_3
        try clear hfz87_4
        try clear hfz87_5
        try clear hfz87_6
        try clear hfz87_7
        try clear hfz87_8
        try clear hfz87_9
        try clear hfz8_0
        try clear hfz8_1
        try clear hfz8_10
        try clear hfz8_11
        try clear hfz8_12
        try clear hfz8_13
        try clear hfz8_2
        try clear hfz8_3
        try clear hfz8_4
        try clear hfz8_5
        try clear hfz8_6
        try clear hfz8_7
        try clear hfz8_8
        try clear hfz8_9
        try clear hfz90_0
        try clear hfz90_1
        try clear hfz90_10
        try clear hfz90_11
        try clear hfz90_12
        try clear hfz90_13
        try clear hfz90_2
        try clear hfz90_3
        try clear hfz90_4
        try clear hfz90_5
        try clear hfz90_6
        try clear hfz90_7
        try clear hfz90_8
        try clear hfz90_9
        rename_i zp4_1 zp4_2 zp4_3 zp4_4 zp4_5 zp4_6 zp4_7 zp4_8 zp4_9 zp4_10 zp4_11 zp4_12 zp4_13 zp4_14 zp4_15 zp4_16 zp4_17 zp4_18 zp4_19 zp4_20 zp4_21 zp4_22 zp4_23 zp4_24 zp4_25 zp4_26 zp4_27 zp4_28 zp4_29 zp4_30 zp4_31 zp4_32 zp4_33 zp4_34 zp4_35 zp4_36 zp4_37 zp4_38 zp4_39 zp4_40 zp4_41 zp4_42 zp4_43 zp4_44 zp4_45 zp4_46 zp4_47 zp4_48 zp4_49 zp4_50 zp4_51 zp4_52 zp4_53 zp4_54 zp4_55 zp4_56 zp4_57 zp4_58 zp4_59 zp4_60 zp4_61 zp4_62 zp4_63 zp4_64 zp4_65 zp4_66 zp4_67 zp4_68 zp4_69 zp4_70 zp4_71 zp4_72 zp4_73 zp4_74 zp4_75 zp4_76 zp4_77 zp4_78 zp4_79 zp4_80 zp4_81 zp4_82 zp4_83 zp4_84 zp4_85 zp4_86 zp4_87 zp4_88 zp4_89 zp4_90 zp4_91; revert k a0_0 a0_1 a0_2 a0_3 a0_4 a0_5 a0_6 A0_7 c0_7 l0_7 a0_8 a0_9 a0_10 a0_11 a0_12 a0_13 a1 a2 a3 r w hu56 hu60 HR0_7 HC0_7 HV t375 A5 t376 t377 t378 t379 t380 t381 t382 t383 t386 t387 t388 t389 t390 t391 A10 t392 t393 t394 t395 t396 t397 t398 t399 t402 t403 t404 t405 t406 t407 t408 A11 t410 t411 t412 t413 t414 t415 t416 t417 t420 t421 t422 t423 t424 t425 A12 t427 t428 t429 t430 t431 t432 t433 t434 t437 t438 t439 t440 t441 t442 t443 A13 zq3_1 gb374 w15 GW374 GE374 w17 w19 Ao20 co20 w21 gb409 w22 GW409 GE409 NB374_409 NB409_374 hnb23 hnc23 Ao25 co25 w27 gb426 w28 GW426 GE426 NB374_426 NB426_374 NB409_426 NB426_409 hnb29 hnc29 hnb30 hnc30 Ao32 co32 w33 gb444 w34 zq3_2 zq3_3 zq3_4 zq3_5 zq3_6 GW444 GE444 NB374_444 NB444_374 NB409_444 NB444_409 NB426_444 NB444_426 hnb35 hnc35 hnb36 hnc36 hnb37 hnc37 Ao39 co39 HO385 HO401 HO419 HO436 zp4_1 zp4_2 zp4_3 zp4_4 zp4_5 zp4_6 zp4_7 zp4_8 zp4_9 zp4_10 zp4_11 zp4_12 zp4_13 zp4_14 zp4_15 zp4_16 zp4_17 zp4_18 zp4_19 zp4_20 zp4_21 zp4_22 zp4_23 zp4_24 zp4_25 zp4_26 zp4_27 zp4_28 zp4_29 zp4_30 zp4_31 zp4_32 zp4_33 zp4_34 zp4_35 zp4_36 zp4_37 zp4_38 zp4_39 zp4_40 zp4_41 zp4_42 zp4_43 zp4_44 zp4_45 zp4_46 zp4_47 zp4_48 zp4_49 zp4_50 zp4_51 zp4_52 zp4_53 zp4_54 zp4_55 zp4_56 zp4_57 zp4_58 zp4_59 zp4_60 zp4_61 zp4_62 zp4_63 zp4_64 zp4_65 zp4_66 zp4_67 zp4_68 zp4_69 zp4_70 zp4_71 zp4_72 zp4_73 zp4_74 zp4_75 zp4_76 zp4_77 zp4_78 zp4_79 zp4_80 zp4_81 zp4_82 zp4_83 zp4_84 zp4_85 zp4_86 zp4_87 zp4_88 zp4_89 zp4_90 zp4_91 kj13 HJ13 t446 t447 t448 t449 t450 t451 t452 t453 t456 t457 t458 t459 t460 t461 A59 A60 t463 t464 A62 w64 zq3_7 w65 Ao66 co66 zq3_8 w67 hHeld hnb68 hnc68 hnb69 hnc69 hnb70 hnc70 w72 HO_410007 HO_427007 HO_445007 BK374 BK409 BK426 BK444 HO455 HB zq3_9 zq3_10 zq3_11 zq3_12 wc u20 u21 u22 u23 u24 u25 u26 u27 u28 u29 u30 u31 u32 u33 u34 u35 u36 u37 u38 u39 u40 u41 u42 u43 u44 u45 u46 u47 u48 u49 u50 u51 u52 u53 u54 u55 u56 u57 u58 u59 u60 u61 u62 u63 u64 u65 u66 u67 u68 u69 u70 u71 u72 u73 u74 u75 u76 u77 u78 u79 u80 u81 u82 u83 u84 u85 u86 u87 u88 u89 u90 u91 u92 u93 u94 u95 u96 u97 u98 u99 u100 u101 u102 u103 u104 u105 u106 u107 u108 u109 u110 hcut; exact hm_.out
set_option maxHeartbeats 8000000 in
set_option maxRecDepth 100000 in
theorem FnExactAskReader_cut5 : FnExactAskReader_cut4.1 := by
       intro k a0_0 a0_1 a0_2 a0_3 a0_4 a0_5 a0_6 A0_7 c0_7 l0_7 a0_8 a0_9 a0_10 a0_11 a0_12 a0_13 a1 a2 a3 r w hu56 hu60 HR0_7 HC0_7 HV t375 A5 t376 t377 t378 t379 t380 t381 t382 t383 t386 t387 t388 t389 t390 t391 A10 t392 t393 t394 t395 t396 t397 t398 t399 t402 t403 t404 t405 t406 t407 t408 A11 t410 t411 t412 t413 t414 t415 t416 t417 t420 t421 t422 t423 t424 t425 A12 t427 t428 t429 t430 t431 t432 t433 t434 t437 t438 t439 t440 t441 t442 t443 A13 zq4_1 gb374 w15 GW374 GE374 w17 w19 Ao20 co20 w21 gb409 w22 GW409 GE409 NB374_409 NB409_374 hnb23 hnc23 Ao25 co25 w27 gb426 w28 GW426 GE426 NB374_426 NB426_374 NB409_426 NB426_409 hnb29 hnc29 hnb30 hnc30 Ao32 co32 w33 gb444 w34 zq4_2 zq4_3 zq4_4 zq4_5 zq4_6 GW444 GE444 NB374_444 NB444_374 NB409_444 NB444_409 NB426_444 NB444_426 hnb35 hnc35 hnb36 hnc36 hnb37 hnc37 Ao39 co39 HO385 HO401 HO419 HO436 zq4_7 zq4_8 zq4_9 zq4_10 zq4_11 zq4_12 zq4_13 zq4_14 zq4_15 zq4_16 zq4_17 zq4_18 zq4_19 zq4_20 zq4_21 zq4_22 zq4_23 zq4_24 zq4_25 zq4_26 zq4_27 zq4_28 zq4_29 zq4_30 zq4_31 zq4_32 zq4_33 zq4_34 zq4_35 zq4_36 zq4_37 zq4_38 zq4_39 zq4_40 zq4_41 zq4_42 zq4_43 zq4_44 zq4_45 zq4_46 zq4_47 zq4_48 zq4_49 zq4_50 zq4_51 zq4_52 zq4_53 zq4_54 zq4_55 zq4_56 zq4_57 zq4_58 zq4_59 zq4_60 zq4_61 zq4_62 zq4_63 zq4_64 zq4_65 zq4_66 zq4_67 zq4_68 zq4_69 zq4_70 zq4_71 zq4_72 zq4_73 zq4_74 zq4_75 zq4_76 zq4_77 zq4_78 zq4_79 zq4_80 zq4_81 zq4_82 zq4_83 zq4_84 zq4_85 zq4_86 zq4_87 zq4_88 zq4_89 zq4_90 zq4_91 zq4_92 zq4_93 zq4_94 zq4_95 zq4_96 zq4_97 kj13 HJ13 t446 t447 t448 t449 t450 t451 t452 t453 t456 t457 t458 t459 t460 t461 A59 A60 t463 t464 A62 w64 zq4_98 w65 Ao66 co66 zq4_99 w67 hHeld hnb68 hnc68 hnb69 hnc69 hnb70 hnc70 w72 HO_410007 HO_427007 HO_445007 BK374 BK409 BK426 BK444 HO455 HB zq4_100 zq4_101 zq4_102 zq4_103 wc u20 u21 u22 u23 u24 u25 u26 u27 u28 u29 u30 u31 u32 u33 u34 u35 u36 u37 u38 u39 u40 u41 u42 u43 u44 u45 u46 u47 u48 u49 u50 u51 u52 u53 u54 u55 u56 u57 u58 u59 u60 u61 u62 u63 u64 u65 u66 u67 u68 u69 u70 u71 u72 u73 u74 u75 u76 u77 u78 u79 u80 u81 u82 u83 u84 u85 u86 u87 u88 u89 u90 u91 u92 u93 u94 u95 u96 u97 u98 u99 u100 u101 u102 u103 u104 u105 u106 u107 u108 u109 u110 hcut
       obtain ⟨kq,x73_62,rfl,HA,HJ62,HO_410007,HO_427007,HO_445007,BK374,BK409,BK426,BK444,HB⟩ := hcut
       have hl427007_62 := (Kd.R_reads' HO_427007.out).1
       rw [hl427007_62] at HO_427007
       (try simp only [hl427007_62])
       (try simp only [hl427007_62] at BK374)
       (try simp only [hl427007_62] at BK409)
       (try simp only [hl427007_62] at BK426)
       (try simp only [hl427007_62] at BK444)
       (try simp only [hl427007_62] at HO_410007)
       (try simp only [hl427007_62] at HO_445007)
       cases kq with
       | zero => exact absurd HA.out (by simp [laws_FnExactAskReader.j1])
       | succ kj62 =>
        have H := HA.out
        clear HA
        simp only [laws_FnExactAskReader.j1] at H
        by_cases c92 : x73_62 = true
        ·subst c92
         rw [if_pos rfl] at H
         exact absurd H (by simp)
        ·replace c92 := Bool.eq_false_iff.mpr c92
         subst c92
         rw [if_neg (show ¬ (false = true) by decide)] at H
         replace H := Option.bind_eq_some_iff.mp H
         obtain ⟨⟨t466,t467⟩,A930,H⟩ := H
         try dsimp only at H
         have A93 := Aside0.mk A930
         clear A930
         replace H := Option.bind_eq_some_iff.mp H
         obtain ⟨t468,A940,H⟩ := H
         try dsimp only at H
         have A94 := Aside0.mk A940
         clear A940
         by_cases c95 : t468 < 0
         ·rw [if_pos c95] at H
          exact absurd H (by simp)
         ·rw [if_neg c95] at H
          have c95b0 : decide (t468 < 0) = false := decide_eq_false c95
          clear c95
          by_cases c96 : t468 = t466
          ·rw [if_pos c96] at H
           have c96b0 : (t468 == t466) = true := beq_iff_eq.mpr c96
           have c96b1 : (t468 != t466) = false := bne_eq_false_iff_eq.mpr c96
           clear c96
           replace H := Option.bind_eq_some_iff.mp H
           obtain ⟨⟨t469,t470,t471,t472,t473,t474,t475,t476,t479,t480,t481,t482,t483,t484⟩,A970,H⟩ := H
           try dsimp only at H
           have A97 := Aside0.mk A970
           clear A970
           replace H := Option.bind_eq_some_iff.mp H
           obtain ⟨⟨t485,t486,t487,t488,t489,t490,t491,t492,t495,t496,t497,t498,t499,t500,t501⟩,A980,H⟩ := H
           try dsimp only at H
           have A98 := Aside0.mk A980
           clear A980
           replace H := Option.bind_eq_some_iff.mp H
           obtain ⟨t503,A990,H⟩ := H
           try dsimp only at H
           have A99 := Aside0.mk A990
           clear A990
           by_cases c100 : t503 = true
           ·subst c100
            rw [if_pos rfl] at H
            by_cases c101 : t501 = t408
            ·rw [if_pos c101] at H
             have c101b0 : (t501 == t408) = true := beq_iff_eq.mpr c101
             have c101b1 : (t501 != t408) = false := bne_eq_false_iff_eq.mpr c101
             clear c101
             replace H := Option.bind_eq_some_iff.mp H
             obtain ⟨t504,A1020,H⟩ := H
             try dsimp only at H
             have A102 := Aside0.mk A1020
             clear A1020
             by_cases c103 : t504 < 0
             ·rw [if_pos c103] at H
              exact absurd H (by simp)
             ·rw [if_neg c103] at H
              have c103b0 : decide (t504 < 0) = false := decide_eq_false c103
              clear c103
              by_cases c104 : t504 = t466
              ·rw [if_pos c104] at H
               have c104b0 : (t504 == t466) = true := beq_iff_eq.mpr c104
               have c104b1 : (t504 != t466) = false := bne_eq_false_iff_eq.mpr c104
               clear c104
               obtain rfl := Option.some.inj H
               have hnb105 := NB444_374.out
               have hnc105 := NB374_444.out
               have hnb106 := NB444_409.out
               have hnc106 := NB409_444.out
               have hnb107 := NB444_426.out
               have hnc107 := NB426_444.out
               have hcz108_0 : wc.cell? ⟨gb444,0,none⟩ = some (.int .i64 t427) := (blk_cell BK444.out 0).trans rfl
               have hcz108_1 : wc.cell? ⟨gb444,1,none⟩ = some (.int .i64 t428) := (blk_cell BK444.out 1).trans rfl
               have hcz108_2 : wc.cell? ⟨gb444,2,none⟩ = some (.int .i64 t429) := (blk_cell BK444.out 2).trans rfl
               have hcz108_3 : wc.cell? ⟨gb444,3,none⟩ = some (.int .i64 t430) := (blk_cell BK444.out 3).trans rfl
               have hcz108_4 : wc.cell? ⟨gb444,4,none⟩ = some (.int .i64 t431) := (blk_cell BK444.out 4).trans rfl
               have hcz108_5 : wc.cell? ⟨gb444,5,none⟩ = some (.int .i64 t432) := (blk_cell BK444.out 5).trans rfl
               have hcz108_6 : wc.cell? ⟨gb444,6,none⟩ = some (.int .i64 t433) := (blk_cell BK444.out 6).trans rfl
               have hcz108_7 : wc.cell? ⟨gb444,7,none⟩ = some (.slice Ao39 t434.length co39) := (blk_cell BK444.out 7).trans rfl
               have hcz108_8 : wc.cell? ⟨gb444,8,none⟩ = some (.int .i64 t437) := (blk_cell BK444.out 8).trans rfl
               have hcz108_9 : wc.cell? ⟨gb444,9,none⟩ = some (.int .i64 t438) := (blk_cell BK444.out 9).trans rfl
               have hcz108_10 : wc.cell? ⟨gb444,10,none⟩ = some (.int .i64 t439) := (blk_cell BK444.out 10).trans rfl
               have hcz108_11 : wc.cell? ⟨gb444,11,none⟩ = some (.int .i64 t440) := (blk_cell BK444.out 11).trans rfl
               have hcz108_12 : wc.cell? ⟨gb444,12,none⟩ = some (.int .i64 t441) := (blk_cell BK444.out 12).trans rfl
               have hcz108_13 : wc.cell? ⟨gb444,13,none⟩ = some (.int .i64 t442) := (blk_cell BK444.out 13).trans rfl
               have hfz108_0 := blk_frozen BK444.out 0
               have hfz108_1 := blk_frozen BK444.out 1
               have hfz108_2 := blk_frozen BK444.out 2
               have hfz108_3 := blk_frozen BK444.out 3
               have hfz108_4 := blk_frozen BK444.out 4
               have hfz108_5 := blk_frozen BK444.out 5
               have hfz108_6 := blk_frozen BK444.out 6
               have hfz108_7 := blk_frozen BK444.out 7
               have hfz108_8 := blk_frozen BK444.out 8
               have hfz108_9 := blk_frozen BK444.out 9
               have hfz108_10 := blk_frozen BK444.out 10
               have hfz108_11 := blk_frozen BK444.out 11
               have hfz108_12 := blk_frozen BK444.out 12
               have hfz108_13 := blk_frozen BK444.out 13
               go_wp2_with (first | ((with_reducible refine gate_callee (f:=29) rfl ?_); refine goesL_ (some 76) rfl rfl Tryd.func29 (by kernel_rfl) rfl #[.agg #[.int .i64 t427,.int .i64 t428,.int .i64 t429,.int .i64 t430,.int .i64 t431,.int .i64 t432,.int .i64 t433,.slice Ao39 t434.length co39,.int .i64 t437,.int .i64 t438,.int .i64 t439,.int .i64 t440,.int .i64 t441,.int .i64 t442],.int .i64 1] rfl mA ?_; (with_reducible refine (laws_markReader.calls kj62 t427 t428 t429 t430 t431 t432 t433 (fun k_ => some k_ = (.slice Ao39 t434.length co39 : Value).ownBlock) (.slice Ao39 t434.length co39) t434 t437 t438 t439 t440 t441 t442 1 t466 t467 w _ ?side1 ?side2 A93.out).mono ?_); (case side1 => exact bA); (case side2 => exact Kd.R_tight rfl HO_445007.out); rintro e w109 ⟨rfl,hy0,hb,hkp⟩; refine ⟨_,rfl,?_⟩; have n0_ := Aside0.mk (Kd.R_mono (ok' := fun k_ => some k_ ≠ (.slice Ao32 t464.length co32 : Value).ownBlock ∧ some k_ ≠ (.slice Ao39 t434.length co39 : Value).ownBlock) (Kd.R_keptB (HO_410007.out) hkp (fun k_ hk_ hs_ => (hk_.2) hs_)) (fun k_ hk_ => ⟨hk_.1.1,hk_.1.2⟩)); have n1_ := Aside0.mk (Kd.R_mono (ok' := fun k_ => some k_ ≠ (.slice Ao25 t399.length co25 : Value).ownBlock ∧ some k_ ≠ (.slice Ao39 t434.length co39 : Value).ownBlock) (Kd.R_keptB (HO_427007.out) hkp (fun k_ hk_ hs_ => (hk_.2) hs_)) (fun k_ hk_ => ⟨hk_.1.1,hk_.1.2⟩)); have n2_ := Aside0.mk (Kd.R_reok rfl hy0 (fun k_ e_ => HO_445007.out.1 k_ e_)); have n3_ := Aside0.mk (blk_kept (kA BK374.out) hkp (fun hs_ => (fun e_ => (Kd.R_ne HO_445007.out BK374.out (by decide)) e_) hs_)); have n4_ := Aside0.mk (blk_kept (kA BK409.out) hkp (fun hs_ => (fun e_ => (Kd.R_ne HO_445007.out BK409.out (by decide)) e_) hs_)); have n5_ := Aside0.mk (blk_kept (kA BK426.out) hkp (fun hs_ => (fun e_ => (Kd.R_ne HO_445007.out BK426.out (by decide)) e_) hs_)); have n6_ := Aside0.mk (blk_kept (kA BK444.out) hkp (fun hs_ => (fun e_ => (Kd.R_ne HO_445007.out BK444.out (by decide)) e_) hs_)); have n7_ := Aside0.mk (hb); clear HO_410007; clear HO_427007; clear HO_445007; clear BK374; clear BK409; clear BK426; clear BK444; clear HB; have HO_410007 := n0_; have HO_427007 := n1_; have HO_445007 := n2_; have BK374 := n3_; have BK409 := n4_; have BK426 := n5_; have BK444 := n6_; have HB := n7_; clear n0_ n1_ n2_ n3_ n4_ n5_ n6_ n7_; (try clear hb); (try clear hkp); (try clear hy0); have hcz110_0 : w109.cell? ⟨gb444,0,none⟩ = some (.int .i64 t427) := (blk_cell BK444.out 0).trans rfl; have hcz110_1 : w109.cell? ⟨gb444,1,none⟩ = some (.int .i64 t428) := (blk_cell BK444.out 1).trans rfl; have hcz110_2 : w109.cell? ⟨gb444,2,none⟩ = some (.int .i64 t429) := (blk_cell BK444.out 2).trans rfl; have hcz110_3 : w109.cell? ⟨gb444,3,none⟩ = some (.int .i64 t430) := (blk_cell BK444.out 3).trans rfl; have hcz110_4 : w109.cell? ⟨gb444,4,none⟩ = some (.int .i64 t431) := (blk_cell BK444.out 4).trans rfl; have hcz110_5 : w109.cell? ⟨gb444,5,none⟩ = some (.int .i64 t432) := (blk_cell BK444.out 5).trans rfl; have hcz110_6 : w109.cell? ⟨gb444,6,none⟩ = some (.int .i64 t433) := (blk_cell BK444.out 6).trans rfl; have hcz110_7 : w109.cell? ⟨gb444,7,none⟩ = some (.slice Ao39 t434.length co39) := (blk_cell BK444.out 7).trans rfl; have hcz110_8 : w109.cell? ⟨gb444,8,none⟩ = some (.int .i64 t437) := (blk_cell BK444.out 8).trans rfl; have hcz110_9 : w109.cell? ⟨gb444,9,none⟩ = some (.int .i64 t438) := (blk_cell BK444.out 9).trans rfl; have hcz110_10 : w109.cell? ⟨gb444,10,none⟩ = some (.int .i64 t439) := (blk_cell BK444.out 10).trans rfl; have hcz110_11 : w109.cell? ⟨gb444,11,none⟩ = some (.int .i64 t440) := (blk_cell BK444.out 11).trans rfl; have hcz110_12 : w109.cell? ⟨gb444,12,none⟩ = some (.int .i64 t441) := (blk_cell BK444.out 12).trans rfl; have hcz110_13 : w109.cell? ⟨gb444,13,none⟩ = some (.int .i64 t442) := (blk_cell BK444.out 13).trans rfl; have hfz110_0 := blk_frozen BK444.out 0; have hfz110_1 := blk_frozen BK444.out 1; have hfz110_2 := blk_frozen BK444.out 2; have hfz110_3 := blk_frozen BK444.out 3; have hfz110_4 := blk_frozen BK444.out 4; have hfz110_5 := blk_frozen BK444.out 5; have hfz110_6 := blk_frozen BK444.out 6; have hfz110_7 := blk_frozen BK444.out 7; have hfz110_8 := blk_frozen BK444.out 8; have hfz110_9 := blk_frozen BK444.out 9; have hfz110_10 := blk_frozen BK444.out 10; have hfz110_11 := blk_frozen BK444.out 11; have hfz110_12 := blk_frozen BK444.out 12; have hfz110_13 := blk_frozen BK444.out 13) | ((with_reducible refine gate_callee (f:=30) rfl ?_); refine goesL_ (some 79) rfl rfl Tryd.func30 (by kernel_rfl) rfl #[.agg #[.int .i64 t427,.int .i64 t428,.int .i64 t429,.int .i64 t430,.int .i64 t431,.int .i64 t432,.int .i64 t433,.slice Ao39 t467.length co39,.int .i64 t437,.int .i64 t438,.int .i64 t439,.int .i64 t440,.int .i64 t441,.int .i64 t442],.int .i64 1] rfl (by (try simp only [List.map_toArray,List.map_cons,List.map_nil]); first | done | (rw [show t467.length = t434.length from (Kd.R_reads' HO_445007.out).1.symm] <;> rfl) | rfl | (simp only [List.length_drop,List.length_take]; rfl)) ?_; (with_reducible refine (laws_heldReader.calls kj62 t427 t428 t429 t430 t431 t432 t433 _ _ t467 t437 t438 t439 t440 t441 t442 1 t468 _ ?side1 ?side2 A94.out).mono ?_); (case side1 => repeat (first | exact (Kd.R_reads' HO_445007.out).2.2 | (with_reducible refine Kd.C_alloc ?_ _) | (with_reducible refine Kd.C_drewN ?_ _) | (with_reducible refine Kd.C_drew ?_))); (case side2 => rw [show t467.length = t434.length from (Kd.R_reads' HO_445007.out).1.symm]; exact (Kd.R_reads' HO_445007.out).2.1); rintro e w111 ⟨rfl,hb⟩; refine ⟨_,rfl,?_⟩; have n0_ := Aside0.mk (Kd.R_below (rA HO_410007.out) hb); have n1_ := Aside0.mk (Kd.R_below (rA HO_427007.out) hb); have n2_ := Aside0.mk (Kd.R_below (rA HO_445007.out) hb); have n3_ := Aside0.mk (blk_below (g:=gb374) (o:=.cells #[.int .i64 a0_0,.int .i64 a0_1,.int .i64 a0_2,.int .i64 a0_3,.int .i64 a0_4,.int .i64 a0_5,.int .i64 a0_6,.slice A0_7 l0_7.length c0_7,.int .i64 a0_8,.int .i64 a0_9,.int .i64 a0_10,.int .i64 a0_11,.int .i64 a0_12,.int .i64 a0_13] 56 (0,0)) (kA BK374.out) hb); have n4_ := Aside0.mk (blk_below (g:=gb409) (o:=.cells #[.int .i64 t392,.int .i64 t393,.int .i64 t394,.int .i64 t395,.int .i64 t396,.int .i64 t397,.int .i64 t398,.slice Ao25 t399.length co25,.int .i64 t402,.int .i64 t403,.int .i64 t404,.int .i64 t405,.int .i64 t406,.int .i64 t407] 60 (0,0)) (kA BK409.out) hb); have n5_ := Aside0.mk (blk_below (g:=gb426) (o:=.cells #[.int .i64 t410,.int .i64 t411,.int .i64 t412,.int .i64 t413,.int .i64 t414,.int .i64 t415,.int .i64 t416,.slice Ao32 t464.length co32,.int .i64 t420,.int .i64 t421,.int .i64 t422,.int .i64 t423,.int .i64 t424,.int .i64 t425] 60 (0,0)) (kA BK426.out) hb); have n6_ := Aside0.mk (blk_below (g:=gb444) (o:=.cells #[.int .i64 t427,.int .i64 t428,.int .i64 t429,.int .i64 t430,.int .i64 t431,.int .i64 t432,.int .i64 t433,.slice Ao39 t434.length co39,.int .i64 t437,.int .i64 t438,.int .i64 t439,.int .i64 t440,.int .i64 t441,.int .i64 t442] 60 (0,0)) (kA BK444.out) hb); have n7_ := Aside0.mk (below_step bA hb); clear HO_410007; clear HO_427007; clear HO_445007; clear BK374; clear BK409; clear BK426; clear BK444; clear HB; have HO_410007 := n0_; have HO_427007 := n1_; have HO_445007 := n2_; have BK374 := n3_; have BK409 := n4_; have BK426 := n5_; have BK444 := n6_; have HB := n7_; clear n0_ n1_ n2_ n3_ n4_ n5_ n6_ n7_; (try clear hb); (try clear hb2); (try clear hk); (try clear hi); have hnb112 := NB374_409.out; have hnc112 := NB409_374.out; have hnb113 := NB374_426.out; have hnc113 := NB426_374.out; have hcz114_0 : w111.cell? ⟨gb374,0,none⟩ = some (.int .i64 a0_0) := (blk_cell BK374.out 0).trans rfl; have hcz114_1 : w111.cell? ⟨gb374,1,none⟩ = some (.int .i64 a0_1) := (blk_cell BK374.out 1).trans rfl; have hcz114_2 : w111.cell? ⟨gb374,2,none⟩ = some (.int .i64 a0_2) := (blk_cell BK374.out 2).trans rfl; have hcz114_3 : w111.cell? ⟨gb374,3,none⟩ = some (.int .i64 a0_3) := (blk_cell BK374.out 3).trans rfl; have hcz114_4 : w111.cell? ⟨gb374,4,none⟩ = some (.int .i64 a0_4) := (blk_cell BK374.out 4).trans rfl; have hcz114_5 : w111.cell? ⟨gb374,5,none⟩ = some (.int .i64 a0_5) := (blk_cell BK374.out 5).trans rfl; have hcz114_6 : w111.cell? ⟨gb374,6,none⟩ = some (.int .i64 a0_6) := (blk_cell BK374.out 6).trans rfl; have hcz114_7 : w111.cell? ⟨gb374,7,none⟩ = some (.slice A0_7 l0_7.length c0_7) := (blk_cell BK374.out 7).trans rfl; have hcz114_8 : w111.cell? ⟨gb374,8,none⟩ = some (.int .i64 a0_8) := (blk_cell BK374.out 8).trans rfl; have hcz114_9 : w111.cell? ⟨gb374,9,none⟩ = some (.int .i64 a0_9) := (blk_cell BK374.out 9).trans rfl; have hcz114_10 : w111.cell? ⟨gb374,10,none⟩ = some (.int .i64 a0_10) := (blk_cell BK374.out 10).trans rfl; have hcz114_11 : w111.cell? ⟨gb374,11,none⟩ = some (.int .i64 a0_11) := (blk_cell BK374.out 11).trans rfl; have hcz114_12 : w111.cell? ⟨gb374,12,none⟩ = some (.int .i64 a0_12) := (blk_cell BK374.out 12).trans rfl; have hcz114_13 : w111.cell? ⟨gb374,13,none⟩ = some (.int .i64 a0_13) := (blk_cell BK374.out 13).trans rfl; have hfz114_0 := blk_frozen BK374.out 0; have hfz114_1 := blk_frozen BK374.out 1; have hfz114_2 := blk_frozen BK374.out 2; have hfz114_3 := blk_frozen BK374.out 3; have hfz114_4 := blk_frozen BK374.out 4; have hfz114_5 := blk_frozen BK374.out 5; have hfz114_6 := blk_frozen BK374.out 6; have hfz114_7 := blk_frozen BK374.out 7; have hfz114_8 := blk_frozen BK374.out 8; have hfz114_9 := blk_frozen BK374.out 9; have hfz114_10 := blk_frozen BK374.out 10; have hfz114_11 := blk_frozen BK374.out 11; have hfz114_12 := blk_frozen BK374.out 12; have hfz114_13 := blk_frozen BK374.out 13) | ((with_reducible refine gate_callee (f:=24) rfl ?_); refine goesL_ (some 87) rfl rfl Tryd.func24 (by kernel_rfl) rfl #[.agg #[.int .i64 a0_0,.int .i64 a0_1,.int .i64 a0_2,.int .i64 a0_3,.int .i64 a0_4,.int .i64 a0_5,.int .i64 a0_6,.slice A0_7 l0_7.length c0_7,.int .i64 a0_8,.int .i64 a0_9,.int .i64 a0_10,.int .i64 a0_11,.int .i64 a0_12,.int .i64 a0_13]] rfl mA ?_; (with_reducible refine (laws_toReader.calls kj62 a0_0 a0_1 a0_2 a0_3 a0_4 a0_5 a0_6 _ _ l0_7 a0_8 a0_9 a0_10 a0_11 a0_12 a0_13 t469 t470 t471 t472 t473 t474 t475 t476 t479 t480 t481 t482 t483 t484 _ ?side1 ?side2 A97.out).mono ?_); (case side1 => repeat (first | exact (Kd.C_below HR0_7.out HB.out) | (with_reducible refine Kd.C_alloc ?_ _) | (with_reducible refine Kd.C_drewN ?_ _) | (with_reducible refine Kd.C_drew ?_))); (case side2 => exact HC0_7.out); rintro e w115 ⟨v477,rfl,ho0,hb⟩; refine ⟨_,rfl,?_⟩; have n0_ := Aside0.mk (Kd.R_elder' (rA HO_410007.out) (Kd.R_base ho0) hb); have n1_ := Aside0.mk (Kd.R_elder' (rA HO_427007.out) (Kd.R_base ho0) hb); have n2_ := Aside0.mk (Kd.R_elder' (rA HO_445007.out) (Kd.R_base ho0) hb); have n3_ := Aside0.mk (Kd.R_lower (Kd.R_new' (Kd.R_new' (Kd.R_new' ho0 (Kd.R_lt (rA HO_410007.out))) (Kd.R_lt (rA HO_427007.out))) (Kd.R_lt (rA HO_445007.out))) (below_size bA)); have n4_ := Aside0.mk (blk_below (g:=gb374) (o:=.cells #[.int .i64 a0_0,.int .i64 a0_1,.int .i64 a0_2,.int .i64 a0_3,.int .i64 a0_4,.int .i64 a0_5,.int .i64 a0_6,.slice A0_7 l0_7.length c0_7,.int .i64 a0_8,.int .i64 a0_9,.int .i64 a0_10,.int .i64 a0_11,.int .i64 a0_12,.int .i64 a0_13] 56 (0,0)) (kA BK374.out) hb); have n5_ := Aside0.mk (blk_below (g:=gb409) (o:=.cells #[.int .i64 t392,.int .i64 t393,.int .i64 t394,.int .i64 t395,.int .i64 t396,.int .i64 t397,.int .i64 t398,.slice Ao25 t399.length co25,.int .i64 t402,.int .i64 t403,.int .i64 t404,.int .i64 t405,.int .i64 t406,.int .i64 t407] 60 (0,0)) (kA BK409.out) hb); have n6_ := Aside0.mk (blk_below (g:=gb426) (o:=.cells #[.int .i64 t410,.int .i64 t411,.int .i64 t412,.int .i64 t413,.int .i64 t414,.int .i64 t415,.int .i64 t416,.slice Ao32 t464.length co32,.int .i64 t420,.int .i64 t421,.int .i64 t422,.int .i64 t423,.int .i64 t424,.int .i64 t425] 60 (0,0)) (kA BK426.out) hb); have n7_ := Aside0.mk (blk_below (g:=gb444) (o:=.cells #[.int .i64 t427,.int .i64 t428,.int .i64 t429,.int .i64 t430,.int .i64 t431,.int .i64 t432,.int .i64 t433,.slice Ao39 t434.length co39,.int .i64 t437,.int .i64 t438,.int .i64 t439,.int .i64 t440,.int .i64 t441,.int .i64 t442] 60 (0,0)) (kA BK444.out) hb); have n8_ := Aside0.mk (below_step bA hb); clear HO_410007; clear HO_427007; clear HO_445007; clear BK374; clear BK409; clear BK426; clear BK444; clear HB; have HO_410007 := n0_; have HO_427007 := n1_; have HO_445007 := n2_; have HO478 := n3_; have BK374 := n4_; have BK409 := n5_; have BK426 := n6_; have BK444 := n7_; have HB := n8_; clear n0_ n1_ n2_ n3_ n4_ n5_ n6_ n7_ n8_; (try clear hb); (try clear hb2); (try clear hk); (try clear hi); (try clear ho0); obtain ⟨Ao116,co116,eo116⟩ := Kd.R_slice HO478.out; subst eo116) | ((with_reducible refine gate_callee (f:=28) rfl ?_); refine goesL_ (some 91) rfl rfl Tryd.func28 (by kernel_rfl) rfl #[.agg #[.int .i64 t469,.int .i64 t470,.int .i64 t471,.int .i64 t472,.int .i64 t473,.int .i64 t474,.int .i64 t475,.slice Ao116 t476.length co116,.int .i64 t479,.int .i64 t480,.int .i64 t481,.int .i64 t482,.int .i64 t483,.int .i64 t484],.int .i64 a1,.int .i64 a2,.int .i64 a3] rfl mA ?_; (with_reducible refine (impl_AskReader.calls kj62 t469 t470 t471 t472 t473 t474 t475 _ _ t476 t479 t480 t481 t482 t483 t484 a1 a2 a3 t485 t486 t487 t488 t489 t490 t491 t492 t495 t496 t497 t498 t499 t500 t501 _ ?side1 ?side2 ?side3 A98.out).mono ?_); (case side1 => exact HV.out.below bA); (case side2 => repeat (first | exact (Kd.R_reads' HO478.out).2.2 | (with_reducible refine Kd.C_alloc ?_ _) | (with_reducible refine Kd.C_drewN ?_ _) | (with_reducible refine Kd.C_drew ?_))); (case side3 => exact (Kd.R_reads' HO478.out).2.1); rintro e w117 ⟨v493,rfl,ho0,hb⟩; refine ⟨_,rfl,?_⟩; have n0_ := Aside0.mk (Kd.R_elder' (rA HO_410007.out) (Kd.R_base ho0) hb); have n1_ := Aside0.mk (Kd.R_elder' (rA HO_427007.out) (Kd.R_base ho0) hb); have n2_ := Aside0.mk (Kd.R_elder' (rA HO_445007.out) (Kd.R_base ho0) hb); have n3_ := Aside0.mk (Kd.R_elder' (rA HO478.out) (Kd.R_base ho0) hb); have n4_ := Aside0.mk (Kd.R_lower (Kd.R_new' (Kd.R_new' (Kd.R_new' (Kd.R_new' ho0 (Kd.R_lt (rA HO_410007.out))) (Kd.R_lt (rA HO_427007.out))) (Kd.R_lt (rA HO_445007.out))) (Kd.R_lt (rA HO478.out))) (below_size bA)); have n5_ := Aside0.mk (blk_below (g:=gb374) (o:=.cells #[.int .i64 a0_0,.int .i64 a0_1,.int .i64 a0_2,.int .i64 a0_3,.int .i64 a0_4,.int .i64 a0_5,.int .i64 a0_6,.slice A0_7 l0_7.length c0_7,.int .i64 a0_8,.int .i64 a0_9,.int .i64 a0_10,.int .i64 a0_11,.int .i64 a0_12,.int .i64 a0_13] 56 (0,0)) (kA BK374.out) hb); have n6_ := Aside0.mk (blk_below (g:=gb409) (o:=.cells #[.int .i64 t392,.int .i64 t393,.int .i64 t394,.int .i64 t395,.int .i64 t396,.int .i64 t397,.int .i64 t398,.slice Ao25 t399.length co25,.int .i64 t402,.int .i64 t403,.int .i64 t404,.int .i64 t405,.int .i64 t406,.int .i64 t407] 60 (0,0)) (kA BK409.out) hb); have n7_ := Aside0.mk (blk_below (g:=gb426) (o:=.cells #[.int .i64 t410,.int .i64 t411,.int .i64 t412,.int .i64 t413,.int .i64 t414,.int .i64 t415,.int .i64 t416,.slice Ao32 t464.length co32,.int .i64 t420,.int .i64 t421,.int .i64 t422,.int .i64 t423,.int .i64 t424,.int .i64 t425] 60 (0,0)) (kA BK426.out) hb); have n8_ := Aside0.mk (blk_below (g:=gb444) (o:=.cells #[.int .i64 t427,.int .i64 t428,.int .i64 t429,.int .i64 t430,.int .i64 t431,.int .i64 t432,.int .i64 t433,.slice Ao39 t434.length co39,.int .i64 t437,.int .i64 t438,.int .i64 t439,.int .i64 t440,.int .i64 t441,.int .i64 t442] 60 (0,0)) (kA BK444.out) hb); have n9_ := Aside0.mk (below_step bA hb); clear HO_410007; clear HO_427007; clear HO_445007; clear HO478; clear BK374; clear BK409; clear BK426; clear BK444; clear HB; have HO_410007 := n0_; have HO_427007 := n1_; have HO_445007 := n2_; have HO478 := n3_; have HO494 := n4_; have BK374 := n5_; have BK409 := n6_; have BK426 := n7_; have BK444 := n8_; have HB := n9_; clear n0_ n1_ n2_ n3_ n4_ n5_ n6_ n7_ n8_ n9_; (try clear hb); (try clear hb2); (try clear hk); (try clear hi); (try clear ho0)) | ((with_reducible refine gate_dst (N:=18) rfl ?_); refine box_event ?hg (N:=18) ?hd (cs := #[.int .i64 0,.int .i64 0,.int .i64 0,.int .i64 0,.int .i64 0,.int .i64 0,.int .i64 0,.slice none 0 0,.int .i64 0,.int .i64 0,.int .i64 0,.int .i64 0,.int .i64 0,.int .i64 0]) (t:=60) ?hr ?_; (case hd => rfl); (case hg => rfl); (case hr => first | (go_simp; done) | (go_simp; rfl)); intro gb502 hg w118 hbox hb; have n0_ := Aside0.mk (Kd.R_below (rA HO_410007.out) hb); have n1_ := Aside0.mk (Kd.R_below (rA HO_427007.out) hb); have n2_ := Aside0.mk (Kd.R_below (rA HO_445007.out) hb); have n3_ := Aside0.mk (Kd.R_below (rA HO478.out) hb); have n4_ := Aside0.mk (Kd.R_below (rA HO494.out) hb); have n5_ := Aside0.mk (blk_below (g:=gb374) (o:=.cells #[.int .i64 a0_0,.int .i64 a0_1,.int .i64 a0_2,.int .i64 a0_3,.int .i64 a0_4,.int .i64 a0_5,.int .i64 a0_6,.slice A0_7 l0_7.length c0_7,.int .i64 a0_8,.int .i64 a0_9,.int .i64 a0_10,.int .i64 a0_11,.int .i64 a0_12,.int .i64 a0_13] 56 (0,0)) (kA BK374.out) hb); have n6_ := Aside0.mk (blk_below (g:=gb409) (o:=.cells #[.int .i64 t392,.int .i64 t393,.int .i64 t394,.int .i64 t395,.int .i64 t396,.int .i64 t397,.int .i64 t398,.slice Ao25 t399.length co25,.int .i64 t402,.int .i64 t403,.int .i64 t404,.int .i64 t405,.int .i64 t406,.int .i64 t407] 60 (0,0)) (kA BK409.out) hb); have n7_ := Aside0.mk (blk_below (g:=gb426) (o:=.cells #[.int .i64 t410,.int .i64 t411,.int .i64 t412,.int .i64 t413,.int .i64 t414,.int .i64 t415,.int .i64 t416,.slice Ao32 t464.length co32,.int .i64 t420,.int .i64 t421,.int .i64 t422,.int .i64 t423,.int .i64 t424,.int .i64 t425] 60 (0,0)) (kA BK426.out) hb); have n8_ := Aside0.mk (blk_below (g:=gb444) (o:=.cells #[.int .i64 t427,.int .i64 t428,.int .i64 t429,.int .i64 t430,.int .i64 t431,.int .i64 t432,.int .i64 t433,.slice Ao39 t434.length co39,.int .i64 t437,.int .i64 t438,.int .i64 t439,.int .i64 t440,.int .i64 t441,.int .i64 t442] 60 (0,0)) (kA BK444.out) hb); have n9_ := Aside0.mk (below_step bA hb); have n10_ := Aside0.mk (hbox); have n11_ := Aside0.mk ((by rw [hg]; exact (below_size bA) : w.heap.size ≤ gb502)); have n12_ := Aside0.mk ((by rw [hg]; exact (below_size bA) : w.heap.size ≤ gb502)); have n13_ := Aside0.mk ((by rw [hg]; exact Nat.ne_of_lt (blk_lt (g:=gb374) (o:=.cells #[.int .i64 a0_0,.int .i64 a0_1,.int .i64 a0_2,.int .i64 a0_3,.int .i64 a0_4,.int .i64 a0_5,.int .i64 a0_6,.slice A0_7 l0_7.length c0_7,.int .i64 a0_8,.int .i64 a0_9,.int .i64 a0_10,.int .i64 a0_11,.int .i64 a0_12,.int .i64 a0_13] 56 (0,0)) (kA BK374.out)) : gb374 ≠ gb502)); have n14_ := Aside0.mk ((by rw [hg]; exact Nat.ne_of_gt (blk_lt (g:=gb374) (o:=.cells #[.int .i64 a0_0,.int .i64 a0_1,.int .i64 a0_2,.int .i64 a0_3,.int .i64 a0_4,.int .i64 a0_5,.int .i64 a0_6,.slice A0_7 l0_7.length c0_7,.int .i64 a0_8,.int .i64 a0_9,.int .i64 a0_10,.int .i64 a0_11,.int .i64 a0_12,.int .i64 a0_13] 56 (0,0)) (kA BK374.out)) : gb502 ≠ gb374)); have n15_ := Aside0.mk ((by rw [hg]; exact Nat.ne_of_lt (blk_lt (g:=gb409) (o:=.cells #[.int .i64 t392,.int .i64 t393,.int .i64 t394,.int .i64 t395,.int .i64 t396,.int .i64 t397,.int .i64 t398,.slice Ao25 t399.length co25,.int .i64 t402,.int .i64 t403,.int .i64 t404,.int .i64 t405,.int .i64 t406,.int .i64 t407] 60 (0,0)) (kA BK409.out)) : gb409 ≠ gb502)); have n16_ := Aside0.mk ((by rw [hg]; exact Nat.ne_of_gt (blk_lt (g:=gb409) (o:=.cells #[.int .i64 t392,.int .i64 t393,.int .i64 t394,.int .i64 t395,.int .i64 t396,.int .i64 t397,.int .i64 t398,.slice Ao25 t399.length co25,.int .i64 t402,.int .i64 t403,.int .i64 t404,.int .i64 t405,.int .i64 t406,.int .i64 t407] 60 (0,0)) (kA BK409.out)) : gb502 ≠ gb409)); have n17_ := Aside0.mk ((by rw [hg]; exact Nat.ne_of_lt (blk_lt (g:=gb426) (o:=.cells #[.int .i64 t410,.int .i64 t411,.int .i64 t412,.int .i64 t413,.int .i64 t414,.int .i64 t415,.int .i64 t416,.slice Ao32 t464.length co32,.int .i64 t420,.int .i64 t421,.int .i64 t422,.int .i64 t423,.int .i64 t424,.int .i64 t425] 60 (0,0)) (kA BK426.out)) : gb426 ≠ gb502)); have n18_ := Aside0.mk ((by rw [hg]; exact Nat.ne_of_gt (blk_lt (g:=gb426) (o:=.cells #[.int .i64 t410,.int .i64 t411,.int .i64 t412,.int .i64 t413,.int .i64 t414,.int .i64 t415,.int .i64 t416,.slice Ao32 t464.length co32,.int .i64 t420,.int .i64 t421,.int .i64 t422,.int .i64 t423,.int .i64 t424,.int .i64 t425] 60 (0,0)) (kA BK426.out)) : gb502 ≠ gb426)); have n19_ := Aside0.mk ((by rw [hg]; exact Nat.ne_of_lt (blk_lt (g:=gb444) (o:=.cells #[.int .i64 t427,.int .i64 t428,.int .i64 t429,.int .i64 t430,.int .i64 t431,.int .i64 t432,.int .i64 t433,.slice Ao39 t434.length co39,.int .i64 t437,.int .i64 t438,.int .i64 t439,.int .i64 t440,.int .i64 t441,.int .i64 t442] 60 (0,0)) (kA BK444.out)) : gb444 ≠ gb502)); have n20_ := Aside0.mk ((by rw [hg]; exact Nat.ne_of_gt (blk_lt (g:=gb444) (o:=.cells #[.int .i64 t427,.int .i64 t428,.int .i64 t429,.int .i64 t430,.int .i64 t431,.int .i64 t432,.int .i64 t433,.slice Ao39 t434.length co39,.int .i64 t437,.int .i64 t438,.int .i64 t439,.int .i64 t440,.int .i64 t441,.int .i64 t442] 60 (0,0)) (kA BK444.out)) : gb502 ≠ gb444)); clear HO_410007; clear HO_427007; clear HO_445007; clear HO478; clear HO494; clear BK374; clear BK409; clear BK426; clear BK444; clear HB; have HO_410007 := n0_; have HO_427007 := n1_; have HO_445007 := n2_; have HO478 := n3_; have HO494 := n4_; have BK374 := n5_; have BK409 := n6_; have BK426 := n7_; have BK444 := n8_; have HB := n9_; have BK502 := n10_; have GW502 := n11_; have GE502 := n12_; have NB374_502 := n13_; have NB502_374 := n14_; have NB409_502 := n15_; have NB502_409 := n16_; have NB426_502 := n17_; have NB502_426 := n18_; have NB444_502 := n19_; have NB502_444 := n20_; clear n0_ n1_ n2_ n3_ n4_ n5_ n6_ n7_ n8_ n9_ n10_ n11_ n12_ n13_ n14_ n15_ n16_ n17_ n18_ n19_ n20_; clear hb hbox hg; have hnb119 := NB502_374.out; have hnc119 := NB374_502.out; have hnb120 := NB502_409.out; have hnc120 := NB409_502.out; have hnb121 := NB502_426.out; have hnc121 := NB426_502.out; have hnb122 := NB502_444.out; have hnc122 := NB444_502.out; have hcz123_0 : w118.cell? ⟨gb502,0,none⟩ = some (.int .i64 0) := (blk_cell BK502.out 0).trans rfl; have hcz123_1 : w118.cell? ⟨gb502,1,none⟩ = some (.int .i64 0) := (blk_cell BK502.out 1).trans rfl; have hcz123_2 : w118.cell? ⟨gb502,2,none⟩ = some (.int .i64 0) := (blk_cell BK502.out 2).trans rfl; have hcz123_3 : w118.cell? ⟨gb502,3,none⟩ = some (.int .i64 0) := (blk_cell BK502.out 3).trans rfl; have hcz123_4 : w118.cell? ⟨gb502,4,none⟩ = some (.int .i64 0) := (blk_cell BK502.out 4).trans rfl; have hcz123_5 : w118.cell? ⟨gb502,5,none⟩ = some (.int .i64 0) := (blk_cell BK502.out 5).trans rfl; have hcz123_6 : w118.cell? ⟨gb502,6,none⟩ = some (.int .i64 0) := (blk_cell BK502.out 6).trans rfl; have hcz123_7 : w118.cell? ⟨gb502,7,none⟩ = some (.slice none 0 0) := (blk_cell BK502.out 7).trans rfl; have hcz123_8 : w118.cell? ⟨gb502,8,none⟩ = some (.int .i64 0) := (blk_cell BK502.out 8).trans rfl; have hcz123_9 : w118.cell? ⟨gb502,9,none⟩ = some (.int .i64 0) := (blk_cell BK502.out 9).trans rfl; have hcz123_10 : w118.cell? ⟨gb502,10,none⟩ = some (.int .i64 0) := (blk_cell BK502.out 10).trans rfl; have hcz123_11 : w118.cell? ⟨gb502,11,none⟩ = some (.int .i64 0) := (blk_cell BK502.out 11).trans rfl; have hcz123_12 : w118.cell? ⟨gb502,12,none⟩ = some (.int .i64 0) := (blk_cell BK502.out 12).trans rfl; have hcz123_13 : w118.cell? ⟨gb502,13,none⟩ = some (.int .i64 0) := (blk_cell BK502.out 13).trans rfl; have hfz123_0 := blk_frozen BK502.out 0; have hfz123_1 := blk_frozen BK502.out 1; have hfz123_2 := blk_frozen BK502.out 2; have hfz123_3 := blk_frozen BK502.out 3; have hfz123_4 := blk_frozen BK502.out 4; have hfz123_5 := blk_frozen BK502.out 5; have hfz123_6 := blk_frozen BK502.out 6; have hfz123_7 := blk_frozen BK502.out 7; have hfz123_8 := blk_frozen BK502.out 8; have hfz123_9 := blk_frozen BK502.out 9; have hfz123_10 := blk_frozen BK502.out 10; have hfz123_11 := blk_frozen BK502.out 11; have hfz123_12 := blk_frozen BK502.out 12; have hfz123_13 := blk_frozen BK502.out 13; obtain ⟨Ao124,co124,eo124⟩ := Kd.R_slice HO494.out; subst eo124; have hnb125 := NB409_426.out; have hnc125 := NB426_409.out; have hcz126_0 : w118.cell? ⟨gb409,0,none⟩ = some (.int .i64 t392) := (blk_cell BK409.out 0).trans rfl; have hcz126_1 : w118.cell? ⟨gb409,1,none⟩ = some (.int .i64 t393) := (blk_cell BK409.out 1).trans rfl; have hcz126_2 : w118.cell? ⟨gb409,2,none⟩ = some (.int .i64 t394) := (blk_cell BK409.out 2).trans rfl; have hcz126_3 : w118.cell? ⟨gb409,3,none⟩ = some (.int .i64 t395) := (blk_cell BK409.out 3).trans rfl; have hcz126_4 : w118.cell? ⟨gb409,4,none⟩ = some (.int .i64 t396) := (blk_cell BK409.out 4).trans rfl; have hcz126_5 : w118.cell? ⟨gb409,5,none⟩ = some (.int .i64 t397) := (blk_cell BK409.out 5).trans rfl; have hcz126_6 : w118.cell? ⟨gb409,6,none⟩ = some (.int .i64 t398) := (blk_cell BK409.out 6).trans rfl; have hcz126_7 : w118.cell? ⟨gb409,7,none⟩ = some (.slice Ao25 t399.length co25) := (blk_cell BK409.out 7).trans rfl; have hcz126_8 : w118.cell? ⟨gb409,8,none⟩ = some (.int .i64 t402) := (blk_cell BK409.out 8).trans rfl; have hcz126_9 : w118.cell? ⟨gb409,9,none⟩ = some (.int .i64 t403) := (blk_cell BK409.out 9).trans rfl; have hcz126_10 : w118.cell? ⟨gb409,10,none⟩ = some (.int .i64 t404) := (blk_cell BK409.out 10).trans rfl; have hcz126_11 : w118.cell? ⟨gb409,11,none⟩ = some (.int .i64 t405) := (blk_cell BK409.out 11).trans rfl; have hcz126_12 : w118.cell? ⟨gb409,12,none⟩ = some (.int .i64 t406) := (blk_cell BK409.out 12).trans rfl; have hcz126_13 : w118.cell? ⟨gb409,13,none⟩ = some (.int .i64 t407) := (blk_cell BK409.out 13).trans rfl; have hfz126_0 := blk_frozen BK409.out 0; have hfz126_1 := blk_frozen BK409.out 1; have hfz126_2 := blk_frozen BK409.out 2; have hfz126_3 := blk_frozen BK409.out 3; have hfz126_4 := blk_frozen BK409.out 4; have hfz126_5 := blk_frozen BK409.out 5; have hfz126_6 := blk_frozen BK409.out 6; have hfz126_7 := blk_frozen BK409.out 7; have hfz126_8 := blk_frozen BK409.out 8; have hfz126_9 := blk_frozen BK409.out 9; have hfz126_10 := blk_frozen BK409.out 10; have hfz126_11 := blk_frozen BK409.out 11; have hfz126_12 := blk_frozen BK409.out 12; have hfz126_13 := blk_frozen BK409.out 13) | ((with_reducible refine gate_callee (f:=26) rfl ?_); refine goesL_ (some 96) rfl rfl Tryd.func26 (by kernel_rfl) rfl #[.agg #[.int .i64 t485,.int .i64 t486,.int .i64 t487,.int .i64 t488,.int .i64 t489,.int .i64 t490,.int .i64 t491,.slice Ao124 t492.length co124,.int .i64 t495,.int .i64 t496,.int .i64 t497,.int .i64 t498,.int .i64 t499,.int .i64 t500],.agg #[.int .i64 t392,.int .i64 t393,.int .i64 t394,.int .i64 t395,.int .i64 t396,.int .i64 t397,.int .i64 t398,.slice Ao25 t399.length co25,.int .i64 t402,.int .i64 t403,.int .i64 t404,.int .i64 t405,.int .i64 t406,.int .i64 t407]] rfl mA ?_; (with_reducible refine (laws_eqReader.calls kj62 t485 t486 t487 t488 t489 t490 t491 _ _ t492 t495 t496 t497 t498 t499 t500 t392 t393 t394 t395 t396 t397 t398 _ _ t399 t402 t403 t404 t405 t406 t407 true _ ?side1 ?side2 ?side3 ?side4 A99.out).mono ?_); (case side1 => refine (Kd.R_reads' (e:=84) (base := w.heap.size) (ok := fun k_ => ((((True ∧ some k_ ≠ (.slice Ao25 t399.length co25 : Value).ownBlock) ∧ some k_ ≠ (.slice Ao32 t464.length co32 : Value).ownBlock) ∧ some k_ ≠ (.slice Ao39 t434.length co39 : Value).ownBlock) ∧ some k_ ≠ (.slice Ao116 t476.length co116 : Value).ownBlock)) (n:=t492.length) (c:=co124) ?_).2.2; exact (by (with_reducible repeat (first | apply Kd.R_alloc | apply Kd.R_drewN | apply Kd.R_drew)); exact (Kd.R_mono (Kd.R_far (p:=⟨gb502,13,none⟩) (Kd.R_far (p:=⟨gb502,12,none⟩) (Kd.R_far (p:=⟨gb502,11,none⟩) (Kd.R_far (p:=⟨gb502,10,none⟩) (Kd.R_far (p:=⟨gb502,9,none⟩) (Kd.R_far (p:=⟨gb502,8,none⟩) (Kd.R_far (p:=⟨gb502,7,none⟩) (Kd.R_far (p:=⟨gb502,6,none⟩) (Kd.R_far (p:=⟨gb502,5,none⟩) (Kd.R_far (p:=⟨gb502,4,none⟩) (Kd.R_far (p:=⟨gb502,3,none⟩) (Kd.R_far (p:=⟨gb502,2,none⟩) (Kd.R_far (p:=⟨gb502,1,none⟩) (Kd.R_far (p:=⟨gb502,0,none⟩) (Kd.R_types HO494.out BK502.out (by decide)) (fun _ hk => hk.2) (.int .i64 t485)) (fun _ hk => hk.2) (.int .i64 t486)) (fun _ hk => hk.2) (.int .i64 t487)) (fun _ hk => hk.2) (.int .i64 t488)) (fun _ hk => hk.2) (.int .i64 t489)) (fun _ hk => hk.2) (.int .i64 t490)) (fun _ hk => hk.2) (.int .i64 t491)) (fun _ hk => hk.2) (.slice Ao124 t492.length co124)) (fun _ hk => hk.2) (.int .i64 t495)) (fun _ hk => hk.2) (.int .i64 t496)) (fun _ hk => hk.2) (.int .i64 t497)) (fun _ hk => hk.2) (.int .i64 t498)) (fun _ hk => hk.2) (.int .i64 t499)) (fun _ hk => hk.2) (.int .i64 t500)) (fun _ h_ => h_.1)))); (case side2 => exact (Kd.R_reads' HO494.out).2.1); (case side3 => refine (Kd.R_reads' (e:=84) (base := w.heap.size) (ok := fun k_ => (((some k_ ≠ (.slice Ao32 t464.length co32 : Value).ownBlock ∧ some k_ ≠ (.slice Ao39 t434.length co39 : Value).ownBlock) ∧ some k_ ≠ (.slice Ao116 t476.length co116 : Value).ownBlock) ∧ some k_ ≠ (.slice Ao124 t492.length co124 : Value).ownBlock)) (n:=t399.length) (c:=co25) ?_).2.2; exact (by (with_reducible repeat (first | apply Kd.R_alloc | apply Kd.R_drewN | apply Kd.R_drew)); exact (Kd.R_mono (Kd.R_far (p:=⟨gb502,13,none⟩) (Kd.R_far (p:=⟨gb502,12,none⟩) (Kd.R_far (p:=⟨gb502,11,none⟩) (Kd.R_far (p:=⟨gb502,10,none⟩) (Kd.R_far (p:=⟨gb502,9,none⟩) (Kd.R_far (p:=⟨gb502,8,none⟩) (Kd.R_far (p:=⟨gb502,7,none⟩) (Kd.R_far (p:=⟨gb502,6,none⟩) (Kd.R_far (p:=⟨gb502,5,none⟩) (Kd.R_far (p:=⟨gb502,4,none⟩) (Kd.R_far (p:=⟨gb502,3,none⟩) (Kd.R_far (p:=⟨gb502,2,none⟩) (Kd.R_far (p:=⟨gb502,1,none⟩) (Kd.R_far (p:=⟨gb502,0,none⟩) (Kd.R_types HO_410007.out BK502.out (by decide)) (fun _ hk => hk.2) (.int .i64 t485)) (fun _ hk => hk.2) (.int .i64 t486)) (fun _ hk => hk.2) (.int .i64 t487)) (fun _ hk => hk.2) (.int .i64 t488)) (fun _ hk => hk.2) (.int .i64 t489)) (fun _ hk => hk.2) (.int .i64 t490)) (fun _ hk => hk.2) (.int .i64 t491)) (fun _ hk => hk.2) (.slice Ao124 t492.length co124)) (fun _ hk => hk.2) (.int .i64 t495)) (fun _ hk => hk.2) (.int .i64 t496)) (fun _ hk => hk.2) (.int .i64 t497)) (fun _ hk => hk.2) (.int .i64 t498)) (fun _ hk => hk.2) (.int .i64 t499)) (fun _ hk => hk.2) (.int .i64 t500)) (fun _ h_ => h_.1)))); (case side4 => exact (Kd.R_reads' HO_410007.out).2.1); rintro e w127 ⟨rfl,hb⟩; refine ⟨_,rfl,?_⟩; have n0_ := Aside0.mk (Kd.R_below (by (with_reducible repeat (first | apply Kd.R_alloc | apply Kd.R_drewN | apply Kd.R_drew)); exact (Kd.R_mono (Kd.R_far (p:=⟨gb502,13,none⟩) (Kd.R_far (p:=⟨gb502,12,none⟩) (Kd.R_far (p:=⟨gb502,11,none⟩) (Kd.R_far (p:=⟨gb502,10,none⟩) (Kd.R_far (p:=⟨gb502,9,none⟩) (Kd.R_far (p:=⟨gb502,8,none⟩) (Kd.R_far (p:=⟨gb502,7,none⟩) (Kd.R_far (p:=⟨gb502,6,none⟩) (Kd.R_far (p:=⟨gb502,5,none⟩) (Kd.R_far (p:=⟨gb502,4,none⟩) (Kd.R_far (p:=⟨gb502,3,none⟩) (Kd.R_far (p:=⟨gb502,2,none⟩) (Kd.R_far (p:=⟨gb502,1,none⟩) (Kd.R_far (p:=⟨gb502,0,none⟩) (Kd.R_types HO_410007.out BK502.out (by decide)) (fun _ hk => hk.2) (.int .i64 t485)) (fun _ hk => hk.2) (.int .i64 t486)) (fun _ hk => hk.2) (.int .i64 t487)) (fun _ hk => hk.2) (.int .i64 t488)) (fun _ hk => hk.2) (.int .i64 t489)) (fun _ hk => hk.2) (.int .i64 t490)) (fun _ hk => hk.2) (.int .i64 t491)) (fun _ hk => hk.2) (.slice Ao124 t492.length co124)) (fun _ hk => hk.2) (.int .i64 t495)) (fun _ hk => hk.2) (.int .i64 t496)) (fun _ hk => hk.2) (.int .i64 t497)) (fun _ hk => hk.2) (.int .i64 t498)) (fun _ hk => hk.2) (.int .i64 t499)) (fun _ hk => hk.2) (.int .i64 t500)) (fun _ h_ => h_.1))) hb); have n1_ := Aside0.mk (Kd.R_below (by (with_reducible repeat (first | apply Kd.R_alloc | apply Kd.R_drewN | apply Kd.R_drew)); exact (Kd.R_mono (Kd.R_far (p:=⟨gb502,13,none⟩) (Kd.R_far (p:=⟨gb502,12,none⟩) (Kd.R_far (p:=⟨gb502,11,none⟩) (Kd.R_far (p:=⟨gb502,10,none⟩) (Kd.R_far (p:=⟨gb502,9,none⟩) (Kd.R_far (p:=⟨gb502,8,none⟩) (Kd.R_far (p:=⟨gb502,7,none⟩) (Kd.R_far (p:=⟨gb502,6,none⟩) (Kd.R_far (p:=⟨gb502,5,none⟩) (Kd.R_far (p:=⟨gb502,4,none⟩) (Kd.R_far (p:=⟨gb502,3,none⟩) (Kd.R_far (p:=⟨gb502,2,none⟩) (Kd.R_far (p:=⟨gb502,1,none⟩) (Kd.R_far (p:=⟨gb502,0,none⟩) (Kd.R_types HO_427007.out BK502.out (by decide)) (fun _ hk => hk.2) (.int .i64 t485)) (fun _ hk => hk.2) (.int .i64 t486)) (fun _ hk => hk.2) (.int .i64 t487)) (fun _ hk => hk.2) (.int .i64 t488)) (fun _ hk => hk.2) (.int .i64 t489)) (fun _ hk => hk.2) (.int .i64 t490)) (fun _ hk => hk.2) (.int .i64 t491)) (fun _ hk => hk.2) (.slice Ao124 t492.length co124)) (fun _ hk => hk.2) (.int .i64 t495)) (fun _ hk => hk.2) (.int .i64 t496)) (fun _ hk => hk.2) (.int .i64 t497)) (fun _ hk => hk.2) (.int .i64 t498)) (fun _ hk => hk.2) (.int .i64 t499)) (fun _ hk => hk.2) (.int .i64 t500)) (fun _ h_ => h_.1))) hb); have n2_ := Aside0.mk (Kd.R_below (by (with_reducible repeat (first | apply Kd.R_alloc | apply Kd.R_drewN | apply Kd.R_drew)); exact (Kd.R_mono (Kd.R_far (p:=⟨gb502,13,none⟩) (Kd.R_far (p:=⟨gb502,12,none⟩) (Kd.R_far (p:=⟨gb502,11,none⟩) (Kd.R_far (p:=⟨gb502,10,none⟩) (Kd.R_far (p:=⟨gb502,9,none⟩) (Kd.R_far (p:=⟨gb502,8,none⟩) (Kd.R_far (p:=⟨gb502,7,none⟩) (Kd.R_far (p:=⟨gb502,6,none⟩) (Kd.R_far (p:=⟨gb502,5,none⟩) (Kd.R_far (p:=⟨gb502,4,none⟩) (Kd.R_far (p:=⟨gb502,3,none⟩) (Kd.R_far (p:=⟨gb502,2,none⟩) (Kd.R_far (p:=⟨gb502,1,none⟩) (Kd.R_far (p:=⟨gb502,0,none⟩) (Kd.R_types HO_445007.out BK502.out (by decide)) (fun _ hk => hk.2) (.int .i64 t485)) (fun _ hk => hk.2) (.int .i64 t486)) (fun _ hk => hk.2) (.int .i64 t487)) (fun _ hk => hk.2) (.int .i64 t488)) (fun _ hk => hk.2) (.int .i64 t489)) (fun _ hk => hk.2) (.int .i64 t490)) (fun _ hk => hk.2) (.int .i64 t491)) (fun _ hk => hk.2) (.slice Ao124 t492.length co124)) (fun _ hk => hk.2) (.int .i64 t495)) (fun _ hk => hk.2) (.int .i64 t496)) (fun _ hk => hk.2) (.int .i64 t497)) (fun _ hk => hk.2) (.int .i64 t498)) (fun _ hk => hk.2) (.int .i64 t499)) (fun _ hk => hk.2) (.int .i64 t500)) (fun _ h_ => h_.1))) hb); have n3_ := Aside0.mk (Kd.R_below (by (with_reducible repeat (first | apply Kd.R_alloc | apply Kd.R_drewN | apply Kd.R_drew)); exact (Kd.R_mono (Kd.R_far (p:=⟨gb502,13,none⟩) (Kd.R_far (p:=⟨gb502,12,none⟩) (Kd.R_far (p:=⟨gb502,11,none⟩) (Kd.R_far (p:=⟨gb502,10,none⟩) (Kd.R_far (p:=⟨gb502,9,none⟩) (Kd.R_far (p:=⟨gb502,8,none⟩) (Kd.R_far (p:=⟨gb502,7,none⟩) (Kd.R_far (p:=⟨gb502,6,none⟩) (Kd.R_far (p:=⟨gb502,5,none⟩) (Kd.R_far (p:=⟨gb502,4,none⟩) (Kd.R_far (p:=⟨gb502,3,none⟩) (Kd.R_far (p:=⟨gb502,2,none⟩) (Kd.R_far (p:=⟨gb502,1,none⟩) (Kd.R_far (p:=⟨gb502,0,none⟩) (Kd.R_types HO478.out BK502.out (by decide)) (fun _ hk => hk.2) (.int .i64 t485)) (fun _ hk => hk.2) (.int .i64 t486)) (fun _ hk => hk.2) (.int .i64 t487)) (fun _ hk => hk.2) (.int .i64 t488)) (fun _ hk => hk.2) (.int .i64 t489)) (fun _ hk => hk.2) (.int .i64 t490)) (fun _ hk => hk.2) (.int .i64 t491)) (fun _ hk => hk.2) (.slice Ao124 t492.length co124)) (fun _ hk => hk.2) (.int .i64 t495)) (fun _ hk => hk.2) (.int .i64 t496)) (fun _ hk => hk.2) (.int .i64 t497)) (fun _ hk => hk.2) (.int .i64 t498)) (fun _ hk => hk.2) (.int .i64 t499)) (fun _ hk => hk.2) (.int .i64 t500)) (fun _ h_ => h_.1))) hb); have n4_ := Aside0.mk (Kd.R_below (by (with_reducible repeat (first | apply Kd.R_alloc | apply Kd.R_drewN | apply Kd.R_drew)); exact (Kd.R_mono (Kd.R_far (p:=⟨gb502,13,none⟩) (Kd.R_far (p:=⟨gb502,12,none⟩) (Kd.R_far (p:=⟨gb502,11,none⟩) (Kd.R_far (p:=⟨gb502,10,none⟩) (Kd.R_far (p:=⟨gb502,9,none⟩) (Kd.R_far (p:=⟨gb502,8,none⟩) (Kd.R_far (p:=⟨gb502,7,none⟩) (Kd.R_far (p:=⟨gb502,6,none⟩) (Kd.R_far (p:=⟨gb502,5,none⟩) (Kd.R_far (p:=⟨gb502,4,none⟩) (Kd.R_far (p:=⟨gb502,3,none⟩) (Kd.R_far (p:=⟨gb502,2,none⟩) (Kd.R_far (p:=⟨gb502,1,none⟩) (Kd.R_far (p:=⟨gb502,0,none⟩) (Kd.R_types HO494.out BK502.out (by decide)) (fun _ hk => hk.2) (.int .i64 t485)) (fun _ hk => hk.2) (.int .i64 t486)) (fun _ hk => hk.2) (.int .i64 t487)) (fun _ hk => hk.2) (.int .i64 t488)) (fun _ hk => hk.2) (.int .i64 t489)) (fun _ hk => hk.2) (.int .i64 t490)) (fun _ hk => hk.2) (.int .i64 t491)) (fun _ hk => hk.2) (.slice Ao124 t492.length co124)) (fun _ hk => hk.2) (.int .i64 t495)) (fun _ hk => hk.2) (.int .i64 t496)) (fun _ hk => hk.2) (.int .i64 t497)) (fun _ hk => hk.2) (.int .i64 t498)) (fun _ hk => hk.2) (.int .i64 t499)) (fun _ hk => hk.2) (.int .i64 t500)) (fun _ h_ => h_.1))) hb); have n5_ := Aside0.mk (blk_below (g:=gb374) (o:=.cells #[.int .i64 a0_0,.int .i64 a0_1,.int .i64 a0_2,.int .i64 a0_3,.int .i64 a0_4,.int .i64 a0_5,.int .i64 a0_6,.slice A0_7 l0_7.length c0_7,.int .i64 a0_8,.int .i64 a0_9,.int .i64 a0_10,.int .i64 a0_11,.int .i64 a0_12,.int .i64 a0_13] 56 (0,0)) (kF BK374.out) hb); have n6_ := Aside0.mk (blk_below (g:=gb409) (o:=.cells #[.int .i64 t392,.int .i64 t393,.int .i64 t394,.int .i64 t395,.int .i64 t396,.int .i64 t397,.int .i64 t398,.slice Ao25 t399.length co25,.int .i64 t402,.int .i64 t403,.int .i64 t404,.int .i64 t405,.int .i64 t406,.int .i64 t407] 60 (0,0)) (kF BK409.out) hb); have n7_ := Aside0.mk (blk_below (g:=gb426) (o:=.cells #[.int .i64 t410,.int .i64 t411,.int .i64 t412,.int .i64 t413,.int .i64 t414,.int .i64 t415,.int .i64 t416,.slice Ao32 t464.length co32,.int .i64 t420,.int .i64 t421,.int .i64 t422,.int .i64 t423,.int .i64 t424,.int .i64 t425] 60 (0,0)) (kF BK426.out) hb); have n8_ := Aside0.mk (blk_below (g:=gb444) (o:=.cells #[.int .i64 t427,.int .i64 t428,.int .i64 t429,.int .i64 t430,.int .i64 t431,.int .i64 t432,.int .i64 t433,.slice Ao39 t434.length co39,.int .i64 t437,.int .i64 t438,.int .i64 t439,.int .i64 t440,.int .i64 t441,.int .i64 t442] 60 (0,0)) (kF BK444.out) hb); have n9_ := Aside0.mk (blk_below (g:=gb502) (o:=.cells #[.int .i64 t485,.int .i64 t486,.int .i64 t487,.int .i64 t488,.int .i64 t489,.int .i64 t490,.int .i64 t491,.slice Ao124 t492.length co124,.int .i64 t495,.int .i64 t496,.int .i64 t497,.int .i64 t498,.int .i64 t499,.int .i64 t500] 60 (0,0)) (by (with_reducible repeat (first | refine blk_drewN ?_ _ | refine blk_drew ?_ | refine blk_alloc ?_ _)); refine blk_put (cs := #[.int .i64 t485,.int .i64 t486,.int .i64 t487,.int .i64 t488,.int .i64 t489,.int .i64 t490,.int .i64 t491,.slice Ao124 t492.length co124,.int .i64 t495,.int .i64 t496,.int .i64 t497,.int .i64 t498,.int .i64 t499,.int .i64 0]) ?_ 13 _ rfl; (with_reducible repeat (first | refine blk_drewN ?_ _ | refine blk_drew ?_ | refine blk_alloc ?_ _)); refine blk_put (cs := #[.int .i64 t485,.int .i64 t486,.int .i64 t487,.int .i64 t488,.int .i64 t489,.int .i64 t490,.int .i64 t491,.slice Ao124 t492.length co124,.int .i64 t495,.int .i64 t496,.int .i64 t497,.int .i64 t498,.int .i64 0,.int .i64 0]) ?_ 12 _ rfl; (with_reducible repeat (first | refine blk_drewN ?_ _ | refine blk_drew ?_ | refine blk_alloc ?_ _)); refine blk_put (cs := #[.int .i64 t485,.int .i64 t486,.int .i64 t487,.int .i64 t488,.int .i64 t489,.int .i64 t490,.int .i64 t491,.slice Ao124 t492.length co124,.int .i64 t495,.int .i64 t496,.int .i64 t497,.int .i64 0,.int .i64 0,.int .i64 0]) ?_ 11 _ rfl; (with_reducible repeat (first | refine blk_drewN ?_ _ | refine blk_drew ?_ | refine blk_alloc ?_ _)); refine blk_put (cs := #[.int .i64 t485,.int .i64 t486,.int .i64 t487,.int .i64 t488,.int .i64 t489,.int .i64 t490,.int .i64 t491,.slice Ao124 t492.length co124,.int .i64 t495,.int .i64 t496,.int .i64 0,.int .i64 0,.int .i64 0,.int .i64 0]) ?_ 10 _ rfl; (with_reducible repeat (first | refine blk_drewN ?_ _ | refine blk_drew ?_ | refine blk_alloc ?_ _)); refine blk_put (cs := #[.int .i64 t485,.int .i64 t486,.int .i64 t487,.int .i64 t488,.int .i64 t489,.int .i64 t490,.int .i64 t491,.slice Ao124 t492.length co124,.int .i64 t495,.int .i64 0,.int .i64 0,.int .i64 0,.int .i64 0,.int .i64 0]) ?_ 9 _ rfl; (with_reducible repeat (first | refine blk_drewN ?_ _ | refine blk_drew ?_ | refine blk_alloc ?_ _)); refine blk_put (cs := #[.int .i64 t485,.int .i64 t486,.int .i64 t487,.int .i64 t488,.int .i64 t489,.int .i64 t490,.int .i64 t491,.slice Ao124 t492.length co124,.int .i64 0,.int .i64 0,.int .i64 0,.int .i64 0,.int .i64 0,.int .i64 0]) ?_ 8 _ rfl; (with_reducible repeat (first | refine blk_drewN ?_ _ | refine blk_drew ?_ | refine blk_alloc ?_ _)); refine blk_put (cs := #[.int .i64 t485,.int .i64 t486,.int .i64 t487,.int .i64 t488,.int .i64 t489,.int .i64 t490,.int .i64 t491,.slice none 0 0,.int .i64 0,.int .i64 0,.int .i64 0,.int .i64 0,.int .i64 0,.int .i64 0]) ?_ 7 _ rfl; (with_reducible repeat (first | refine blk_drewN ?_ _ | refine blk_drew ?_ | refine blk_alloc ?_ _)); refine blk_put (cs := #[.int .i64 t485,.int .i64 t486,.int .i64 t487,.int .i64 t488,.int .i64 t489,.int .i64 t490,.int .i64 0,.slice none 0 0,.int .i64 0,.int .i64 0,.int .i64 0,.int .i64 0,.int .i64 0,.int .i64 0]) ?_ 6 _ rfl; (with_reducible repeat (first | refine blk_drewN ?_ _ | refine blk_drew ?_ | refine blk_alloc ?_ _)); refine blk_put (cs := #[.int .i64 t485,.int .i64 t486,.int .i64 t487,.int .i64 t488,.int .i64 t489,.int .i64 0,.int .i64 0,.slice none 0 0,.int .i64 0,.int .i64 0,.int .i64 0,.int .i64 0,.int .i64 0,.int .i64 0]) ?_ 5 _ rfl; (with_reducible repeat (first | refine blk_drewN ?_ _ | refine blk_drew ?_ | refine blk_alloc ?_ _)); refine blk_put (cs := #[.int .i64 t485,.int .i64 t486,.int .i64 t487,.int .i64 t488,.int .i64 0,.int .i64 0,.int .i64 0,.slice none 0 0,.int .i64 0,.int .i64 0,.int .i64 0,.int .i64 0,.int .i64 0,.int .i64 0]) ?_ 4 _ rfl; (with_reducible repeat (first | refine blk_drewN ?_ _ | refine blk_drew ?_ | refine blk_alloc ?_ _)); refine blk_put (cs := #[.int .i64 t485,.int .i64 t486,.int .i64 t487,.int .i64 0,.int .i64 0,.int .i64 0,.int .i64 0,.slice none 0 0,.int .i64 0,.int .i64 0,.int .i64 0,.int .i64 0,.int .i64 0,.int .i64 0]) ?_ 3 _ rfl; (with_reducible repeat (first | refine blk_drewN ?_ _ | refine blk_drew ?_ | refine blk_alloc ?_ _)); refine blk_put (cs := #[.int .i64 t485,.int .i64 t486,.int .i64 0,.int .i64 0,.int .i64 0,.int .i64 0,.int .i64 0,.slice none 0 0,.int .i64 0,.int .i64 0,.int .i64 0,.int .i64 0,.int .i64 0,.int .i64 0]) ?_ 2 _ rfl; (with_reducible repeat (first | refine blk_drewN ?_ _ | refine blk_drew ?_ | refine blk_alloc ?_ _)); refine blk_put (cs := #[.int .i64 t485,.int .i64 0,.int .i64 0,.int .i64 0,.int .i64 0,.int .i64 0,.int .i64 0,.slice none 0 0,.int .i64 0,.int .i64 0,.int .i64 0,.int .i64 0,.int .i64 0,.int .i64 0]) ?_ 1 _ rfl; (with_reducible repeat (first | refine blk_drewN ?_ _ | refine blk_drew ?_ | refine blk_alloc ?_ _)); refine blk_put (cs := #[.int .i64 0,.int .i64 0,.int .i64 0,.int .i64 0,.int .i64 0,.int .i64 0,.int .i64 0,.slice none 0 0,.int .i64 0,.int .i64 0,.int .i64 0,.int .i64 0,.int .i64 0,.int .i64 0]) ?_ 0 _ rfl; (with_reducible repeat (first | refine blk_drewN ?_ _ | refine blk_drew ?_ | refine blk_alloc ?_ _)); exact BK502.out) hb); have n10_ := Aside0.mk (below_step bA hb); clear HO_410007; clear HO_427007; clear HO_445007; clear HO478; clear HO494; clear BK374; clear BK409; clear BK426; clear BK444; clear BK502; clear HB; have HO_410007 := n0_; have HO_427007 := n1_; have HO_445007 := n2_; have HO478 := n3_; have HO494 := n4_; have BK374 := n5_; have BK409 := n6_; have BK426 := n7_; have BK444 := n8_; have BK502 := n9_; have HB := n10_; clear n0_ n1_ n2_ n3_ n4_ n5_ n6_ n7_ n8_ n9_ n10_; (try clear hb); (try clear hb2); (try clear hk); (try clear hi); have hcz128_0 : w127.cell? ⟨gb444,0,none⟩ = some (.int .i64 t427) := (blk_cell BK444.out 0).trans rfl; have hcz128_1 : w127.cell? ⟨gb444,1,none⟩ = some (.int .i64 t428) := (blk_cell BK444.out 1).trans rfl; have hcz128_2 : w127.cell? ⟨gb444,2,none⟩ = some (.int .i64 t429) := (blk_cell BK444.out 2).trans rfl; have hcz128_3 : w127.cell? ⟨gb444,3,none⟩ = some (.int .i64 t430) := (blk_cell BK444.out 3).trans rfl; have hcz128_4 : w127.cell? ⟨gb444,4,none⟩ = some (.int .i64 t431) := (blk_cell BK444.out 4).trans rfl; have hcz128_5 : w127.cell? ⟨gb444,5,none⟩ = some (.int .i64 t432) := (blk_cell BK444.out 5).trans rfl; have hcz128_6 : w127.cell? ⟨gb444,6,none⟩ = some (.int .i64 t433) := (blk_cell BK444.out 6).trans rfl; have hcz128_7 : w127.cell? ⟨gb444,7,none⟩ = some (.slice Ao39 t434.length co39) := (blk_cell BK444.out 7).trans rfl; have hcz128_8 : w127.cell? ⟨gb444,8,none⟩ = some (.int .i64 t437) := (blk_cell BK444.out 8).trans rfl; have hcz128_9 : w127.cell? ⟨gb444,9,none⟩ = some (.int .i64 t438) := (blk_cell BK444.out 9).trans rfl; have hcz128_10 : w127.cell? ⟨gb444,10,none⟩ = some (.int .i64 t439) := (blk_cell BK444.out 10).trans rfl; have hcz128_11 : w127.cell? ⟨gb444,11,none⟩ = some (.int .i64 t440) := (blk_cell BK444.out 11).trans rfl; have hcz128_12 : w127.cell? ⟨gb444,12,none⟩ = some (.int .i64 t441) := (blk_cell BK444.out 12).trans rfl; have hcz128_13 : w127.cell? ⟨gb444,13,none⟩ = some (.int .i64 t442) := (blk_cell BK444.out 13).trans rfl; have hfz128_0 := blk_frozen BK444.out 0; have hfz128_1 := blk_frozen BK444.out 1; have hfz128_2 := blk_frozen BK444.out 2; have hfz128_3 := blk_frozen BK444.out 3; have hfz128_4 := blk_frozen BK444.out 4; have hfz128_5 := blk_frozen BK444.out 5; have hfz128_6 := blk_frozen BK444.out 6; have hfz128_7 := blk_frozen BK444.out 7; have hfz128_8 := blk_frozen BK444.out 8; have hfz128_9 := blk_frozen BK444.out 9; have hfz128_10 := blk_frozen BK444.out 10; have hfz128_11 := blk_frozen BK444.out 11; have hfz128_12 := blk_frozen BK444.out 12; have hfz128_13 := blk_frozen BK444.out 13) | ((with_reducible refine gate_callee (f:=30) rfl ?_); refine goesL_ (some 105) rfl rfl Tryd.func30 (by kernel_rfl) rfl #[.agg #[.int .i64 t427,.int .i64 t428,.int .i64 t429,.int .i64 t430,.int .i64 t431,.int .i64 t432,.int .i64 t433,.slice Ao39 t467.length co39,.int .i64 t437,.int .i64 t438,.int .i64 t439,.int .i64 t440,.int .i64 t441,.int .i64 t442],.int .i64 1] rfl (by (try simp only [List.map_toArray,List.map_cons,List.map_nil]); first | done | (rw [show t467.length = t434.length from (Kd.R_reads' HO_445007.out).1.symm] <;> rfl) | rfl | (simp only [List.length_drop,List.length_take]; rfl)) ?_; (with_reducible refine (laws_heldReader.calls kj62 t427 t428 t429 t430 t431 t432 t433 _ _ t467 t437 t438 t439 t440 t441 t442 1 t504 _ ?side1 ?side2 A102.out).mono ?_); (case side1 => repeat (first | exact (Kd.R_reads' HO_445007.out).2.2 | (with_reducible refine Kd.C_alloc ?_ _) | (with_reducible refine Kd.C_drewN ?_ _) | (with_reducible refine Kd.C_drew ?_))); (case side2 => rw [show t467.length = t434.length from (Kd.R_reads' HO_445007.out).1.symm]; exact (Kd.R_reads' HO_445007.out).2.1); rintro e w129 ⟨rfl,hb⟩; refine ⟨_,rfl,?_⟩; have n0_ := Aside0.mk (Kd.R_below (rA HO_410007.out) hb); have n1_ := Aside0.mk (Kd.R_below (rA HO_427007.out) hb); have n2_ := Aside0.mk (Kd.R_below (rA HO_445007.out) hb); have n3_ := Aside0.mk (Kd.R_below (rA HO478.out) hb); have n4_ := Aside0.mk (Kd.R_below (rA HO494.out) hb); have n5_ := Aside0.mk (blk_below (g:=gb374) (o:=.cells #[.int .i64 a0_0,.int .i64 a0_1,.int .i64 a0_2,.int .i64 a0_3,.int .i64 a0_4,.int .i64 a0_5,.int .i64 a0_6,.slice A0_7 l0_7.length c0_7,.int .i64 a0_8,.int .i64 a0_9,.int .i64 a0_10,.int .i64 a0_11,.int .i64 a0_12,.int .i64 a0_13] 56 (0,0)) (kA BK374.out) hb); have n6_ := Aside0.mk (blk_below (g:=gb409) (o:=.cells #[.int .i64 t392,.int .i64 t393,.int .i64 t394,.int .i64 t395,.int .i64 t396,.int .i64 t397,.int .i64 t398,.slice Ao25 t399.length co25,.int .i64 t402,.int .i64 t403,.int .i64 t404,.int .i64 t405,.int .i64 t406,.int .i64 t407] 60 (0,0)) (kA BK409.out) hb); have n7_ := Aside0.mk (blk_below (g:=gb426) (o:=.cells #[.int .i64 t410,.int .i64 t411,.int .i64 t412,.int .i64 t413,.int .i64 t414,.int .i64 t415,.int .i64 t416,.slice Ao32 t464.length co32,.int .i64 t420,.int .i64 t421,.int .i64 t422,.int .i64 t423,.int .i64 t424,.int .i64 t425] 60 (0,0)) (kA BK426.out) hb); have n8_ := Aside0.mk (blk_below (g:=gb444) (o:=.cells #[.int .i64 t427,.int .i64 t428,.int .i64 t429,.int .i64 t430,.int .i64 t431,.int .i64 t432,.int .i64 t433,.slice Ao39 t434.length co39,.int .i64 t437,.int .i64 t438,.int .i64 t439,.int .i64 t440,.int .i64 t441,.int .i64 t442] 60 (0,0)) (kA BK444.out) hb); have n9_ := Aside0.mk (blk_below (g:=gb502) (o:=.cells #[.int .i64 t485,.int .i64 t486,.int .i64 t487,.int .i64 t488,.int .i64 t489,.int .i64 t490,.int .i64 t491,.slice Ao124 t492.length co124,.int .i64 t495,.int .i64 t496,.int .i64 t497,.int .i64 t498,.int .i64 t499,.int .i64 t500] 60 (0,0)) (kA BK502.out) hb); have n10_ := Aside0.mk (below_step bA hb); clear HO_410007; clear HO_427007; clear HO_445007; clear HO478; clear HO494; clear BK374; clear BK409; clear BK426; clear BK444; clear BK502; clear HB; have HO_410007 := n0_; have HO_427007 := n1_; have HO_445007 := n2_; have HO478 := n3_; have HO494 := n4_; have BK374 := n5_; have BK409 := n6_; have BK426 := n7_; have BK444 := n8_; have BK502 := n9_; have HB := n10_; clear n0_ n1_ n2_ n3_ n4_ n5_ n6_ n7_ n8_ n9_ n10_; (try clear hb); (try clear hb2); (try clear hk); (try clear hi)))
               go_ret
               exact ⟨by first | rfl | (simp [errW_none,errW_some] <;> rfl) | (simp [*,errW_none,errW_some] <;> rfl),bA⟩
              ·rw [if_neg c104] at H
               exact absurd H (by simp)
            ·rw [if_neg c101] at H
             exact absurd H (by simp)
           ·replace c100 := Bool.eq_false_iff.mpr c100
            subst c100
            rw [if_neg (show ¬ (false = true) by decide)] at H
            exact absurd H (by simp)
          ·rw [if_neg c96] at H
           exact absurd H (by simp)
theorem laws_FnExactAskReader.calls (k : Nat) (a0_0 : Int) (a0_1 : Int) (a0_2 : Int) (a0_3 : Int) (a0_4 : Int) (a0_5 : Int) (a0_6 : Int) (A0_7 : Option Addr) (c0_7 : Nat) (l0_7 : List (S120)) (a0_8 : Int) (a0_9 : Int) (a0_10 : Int) (a0_11 : Int) (a0_12 : Int) (a0_13 : Int) (a1 : Int) (a2 : Int) (a3 : Int) (r : Bool) (w : World) (hV : Vars w) (hr0_7 : Kd.C k120 w A0_7 l0_7.length l0_7) (hc0_7 : l0_7.length ≤ c0_7) (h : laws_FnExactAskReader.f k a0_0 a0_1 a0_2 a0_3 a0_4 a0_5 a0_6 l0_7 a0_8 a0_9 a0_10 a0_11 a0_12 a0_13 a1 a2 a3 = some r) : Calls Tryd.prog 6 #[.agg #[.int .i64 a0_0,.int .i64 a0_1,.int .i64 a0_2,.int .i64 a0_3,.int .i64 a0_4,.int .i64 a0_5,.int .i64 a0_6,.slice A0_7 l0_7.length c0_7,.int .i64 a0_8,.int .i64 a0_9,.int .i64 a0_10,.int .i64 a0_11,.int .i64 a0_12,.int .i64 a0_13],.int .i64 a1,.int .i64 a2,.int .i64 a3] w fun e w' => e = .returned (.bool r) ∧ Below w.heap.size w w' := (FnExactAskReader_cut1.2 ⟨(FnExactAskReader_cut2.2 ⟨(FnExactAskReader_cut3.2 ⟨(FnExactAskReader_cut4.2 ⟨FnExactAskReader_cut5⟩)⟩)⟩)⟩) k a0_0 a0_1 a0_2 a0_3 a0_4 a0_5 a0_6 A0_7 c0_7 l0_7 a0_8 a0_9 a0_10 a0_11 a0_12 a0_13 a1 a2 a3 r w hV hr0_7 hc0_7 h

end Go.Proofs.YtleifhnoaaphmaaDoor.XFnExactAskReader

