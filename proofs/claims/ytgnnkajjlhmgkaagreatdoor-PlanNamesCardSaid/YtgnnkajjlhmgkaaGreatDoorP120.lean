import Derived.Test.YtgnnkajjlhmgkaaGreatDoorLit
/- Pieces of the closed run of the chapter's example. -/
set_option linter.all false
set_option maxRecDepth 100000
namespace Go.Pv.NP
open Go Go.Proofs
def as140 : List A := [(.lp 1611294 0)]
def m140 : List (Nat × R) := [(1126911,(.cells false [(U 2),(I 0),(U 0),(I 0),(T []),(N 0),(I 0),(N 5),(I 0),(I 0),(I 0),(I 0),(U 0),(B false),(N 17),(N 6)])),(1126915,(.cells false [(N 1),(.h 1126914),(.h 1126913),(.h 1126907),(I 5),(.h 1126906)])),(1209939,(.osl false 101 2 [[(I 0),(I 0)],[(I 1),(I 0)],[(I 2),(I 0)]])),(1208971,(.cells false [(.lp 1126915 0),(.h 1209918),(.h 1209939),(.h 1211458),(.h 1208958),(.h 1208960),(.h 1208962),(.h 1208964),(.h 1208966),(.h 1208968)])),(1611291,(.mp false [] [])),(1126907,(.mp false [((.agg [(.int .i64 1),(.int .u8 1)]),(I 3)),((.agg [(.int .i64 1),(.int .u8 2)]),(I 4))] [])),(1126913,(.mp false [((.one (.int .i64 1)),(.lp 1126912 0)),((.one (.int .i64 2)),(.lp 1126911 0)),((.one (.int .i64 3)),(.lp 1126910 0)),((.one (.int .i64 4)),(.lp 1126909 0)),((.one (.int .i64 5)),(.lp 1126908 0))] [])),(1209601,(.osl false 43 6 [[(T [103]),(U 4),(I 0),(T []),(N 0),(I 3)]])),(1209885,(.osl false 43 6 [[(T [110]),(U 4),(I 0),(T []),(N 0),(I 5)]])),(1126909,(.cells false [(U 14),(I 0),(U 0),(I 0),(T []),(N 0),(I 0),(N 5),(I 0),(I 0),(I 1),(I 0),(U 2),(B false),(N 17),(N 6)])),(1126912,(.cells false [(U 1),(I 0),(U 0),(I 0),(T []),(N 0),(I 0),(N 5),(I 0),(I 0),(I 0),(I 0),(U 0),(B false),(N 17),(N 6)])),(1208960,(.mp false [((.one (.int .i64 1)),(I 1)),((.one (.int .i64 2)),(I 2)),((.one (.int .i64 3)),(I 1)),((.one (.int .i64 4)),(I 1)),((.one (.int .i64 5)),(I 5))] [])),(1209616,(.osl false 27 1 [[(I 3)]])),(1208968,(.mp false [((.agg [(.int .i64 0),(.int .i64 0),(.int .u8 0),(.int .i64 0),(.int .i64 0),(.int .i64 0),(.int .u8 1),(.int .i64 1),(.int .i64 0),(.int .i64 0)]),(B true)),((.agg [(.int .i64 0),(.int .i64 0),(.int .u8 0),(.int .i64 0),(.int .i64 0),(.int .i64 0),(.int .u8 1),(.int .i64 2),(.int .i64 0),(.int .i64 0)]),(B true)),((.agg [(.int .i64 0),(.int .i64 0),(.int .u8 0),(.int .i64 0),(.int .i64 0),(.int .i64 0),(.int .u8 2),(.int .i64 0),(.int .i64 0),(.int .i64 0)]),(B true)),((.agg [(.int .i64 0),(.int .i64 0),(.int .u8 0),(.int .i64 0),(.int .i64 0),(.int .i64 0),(.int .u8 2),(.int .i64 0),(.int .i64 1),(.int .i64 0)]),(B true)),((.agg [(.int .i64 1),(.int .i64 0),(.int .u8 0),(.int .i64 0),(.int .i64 0),(.int .i64 0),(.int .u8 1),(.int .i64 1),(.int .i64 0),(.int .i64 0)]),(B true)),((.agg [(.int .i64 1),(.int .i64 0),(.int .u8 0),(.int .i64 0),(.int .i64 0),(.int .i64 0),(.int .u8 1),(.int .i64 2),(.int .i64 0),(.int .i64 0)]),(B true)),((.agg [(.int .i64 1),(.int .i64 0),(.int .u8 0),(.int .i64 0),(.int .i64 0),(.int .i64 0),(.int .u8 2),(.int .i64 0),(.int .i64 0),(.int .i64 0)]),(B true)),((.agg [(.int .i64 1),(.int .i64 0),(.int .u8 0),(.int .i64 0),(.int .i64 0),(.int .i64 0),(.int .u8 2),(.int .i64 0),(.int .i64 1),(.int .i64 0)]),(B true)),((.agg [(.int .i64 2),(.int .i64 0),(.int .u8 0),(.int .i64 0),(.int .i64 0),(.int .i64 0),(.int .u8 1),(.int .i64 5),(.int .i64 0),(.int .i64 0)]),(B true)),((.agg [(.int .i64 2),(.int .i64 0),(.int .u8 0),(.int .i64 0),(.int .i64 0),(.int .i64 0),(.int .u8 2),(.int .i64 0),(.int .i64 2),(.int .i64 0)]),(B true))] [])),(1208964,(.mp false [((.agg [(.int .i64 0),(.int .i64 0)]),(I 0)),((.agg [(.int .i64 1),(.int .i64 0)]),(I 0)),((.agg [(.int .i64 2),(.int .i64 0)]),(I 0))] [])),(1209900,(.osl false 27 1 [[(I 5)]])),(1126908,(.cells false [(U 2),(I 0),(U 0),(I 0),(T []),(N 0),(I 0),(N 5),(I 0),(I 0),(I 0),(I 0),(U 0),(B false),(N 17),(N 6)])),(1126914,(.osl false 4 1 [[(B false)]])),(1208962,(.mp false [((.agg [(.int .i64 0),(.int .i64 0)]),(.agg [(U 63),(B true),(B true)])),((.agg [(.int .i64 1),(.int .i64 0)]),(.agg [(U 63),(B true),(B true)])),((.agg [(.int .i64 2),(.int .i64 0)]),(.agg [(U 63),(B true),(B true)]))] [])),(1211458,(.osl false 104 4 [[(U 1),(I 1),(I 0),(I 0)],[(U 1),(I 2),(I 0),(I 0)],[(U 1),(I 5),(I 0),(I 0)],[(U 2),(I 0),(I 0),(I 0)],[(U 2),(I 0),(I 1),(I 0)],[(U 2),(I 0),(I 2),(I 0)]])),(1126906,(.osl false 3 1 [[(I 3)]])),(1208966,(.mp false [((.agg [(.int .u8 1),(.int .i64 1),(.int .i64 0),(.int .i64 0)]),(B true)),((.agg [(.int .u8 1),(.int .i64 2),(.int .i64 0),(.int .i64 0)]),(B true)),((.agg [(.int .u8 1),(.int .i64 5),(.int .i64 0),(.int .i64 0)]),(B true)),((.agg [(.int .u8 2),(.int .i64 0),(.int .i64 0),(.int .i64 0)]),(B true)),((.agg [(.int .u8 2),(.int .i64 0),(.int .i64 1),(.int .i64 0)]),(B true)),((.agg [(.int .u8 2),(.int .i64 0),(.int .i64 2),(.int .i64 0)]),(B true))] [])),(1209318,(.osl false 43 6 [[(T [99]),(U 4),(I 0),(T []),(N 0),(I 4)],[(T [108]),(U 4),(I 0),(T []),(N 0),(I 2)]])),(1209334,(.osl false 27 1 [[(I 4)],[(I 2)]])),(1611294,(.cells false [(.lp 1208971 0),(.h 1611291)])),(1209918,(.osl false 47 4 [[(I 0),(N 17),(.h 1209318),(.h 1209334)],[(I 0),(N 17),(.h 1209601),(.h 1209616)],[(I 0),(N 17),(.h 1209885),(.h 1209900)]])),(1208958,(.mp false [((.one (.int .i64 1)),(.agg [(U 1),(I 0),(U 0),(I 0),(T []),(N 0),(I 0),(N 5),(I 0),(I 0),(I 0),(I 0),(U 0),(B false),(N 17),(N 6)])),((.one (.int .i64 2)),(.agg [(U 2),(I 0),(U 0),(I 0),(T []),(N 0),(I 0),(N 5),(I 0),(I 0),(I 0),(I 0),(U 0),(B false),(N 17),(N 6)])),((.one (.int .i64 3)),(.agg [(U 14),(I 0),(U 0),(I 0),(T []),(N 0),(I 0),(N 5),(I 0),(I 0),(I 1),(I 0),(U 1),(B false),(N 17),(N 6)])),((.one (.int .i64 4)),(.agg [(U 14),(I 0),(U 0),(I 0),(T []),(N 0),(I 0),(N 5),(I 0),(I 0),(I 1),(I 0),(U 2),(B false),(N 17),(N 6)])),((.one (.int .i64 5)),(.agg [(U 2),(I 0),(U 0),(I 0),(T []),(N 0),(I 0),(N 5),(I 0),(I 0),(I 0),(I 0),(U 0),(B false),(N 17),(N 6)]))] [])),(1126910,(.cells false [(U 14),(I 0),(U 0),(I 0),(T []),(N 0),(I 0),(N 5),(I 0),(I 0),(I 1),(I 0),(U 1),(B false),(N 17),(N 6)]))]
def r140 : Rt := (.ok (.tup []))
def u140 : List (Nat × R) := [(1611291,(.mp false [((.agg [(.int .i64 0),(.int .i64 0),(.int .u8 0),(.int .i64 0),(.int .i64 0),(.int .i64 0),(.int .u8 1),(.int .i64 1),(.int .i64 0),(.int .i64 0)]),(U 2)),((.agg [(.int .i64 0),(.int .i64 0),(.int .u8 0),(.int .i64 0),(.int .i64 0),(.int .i64 0),(.int .u8 1),(.int .i64 2),(.int .i64 0),(.int .i64 0)]),(U 9)),((.agg [(.int .i64 1),(.int .i64 0),(.int .u8 0),(.int .i64 0),(.int .i64 0),(.int .i64 0),(.int .u8 1),(.int .i64 1),(.int .i64 0),(.int .i64 0)]),(U 1)),((.agg [(.int .i64 2),(.int .i64 0),(.int .u8 0),(.int .i64 0),(.int .i64 0),(.int .i64 0),(.int .u8 1),(.int .i64 5),(.int .i64 0),(.int .i64 0)]),(U 9))] []))]
def H140 (g : Hd) : Hd := hitR 80 as140 m140 r140 u140 1611302 1613459 g
theorem piece140 : resEqb (evH Tryz.prog ctB 60 (.fn 80) as140 (trU m140) 1611302) r140 u140 1613459 = true := by kernel_rfl
def as141 : List A := [(.lp 1611294 0),(.fn (.func 82) [] [(.lp 1613461 0)])]
def m141 : List (Nat × R) := [(1126911,(.cells false [(U 2),(I 0),(U 0),(I 0),(T []),(N 0),(I 0),(N 5),(I 0),(I 0),(I 0),(I 0),(U 0),(B false),(N 17),(N 6)])),(1126915,(.cells false [(N 1),(.h 1126914),(.h 1126913),(.h 1126907),(I 5),(.h 1126906)])),(1613459,(.mp false [] [])),(1209939,(.osl false 101 2 [[(I 0),(I 0)],[(I 1),(I 0)],[(I 2),(I 0)]])),(1208971,(.cells false [(.lp 1126915 0),(.h 1209918),(.h 1209939),(.h 1211458),(.h 1208958),(.h 1208960),(.h 1208962),(.h 1208964),(.h 1208966),(.h 1208968)])),(1611291,(.mp false [((.agg [(.int .i64 0),(.int .i64 0),(.int .u8 0),(.int .i64 0),(.int .i64 0),(.int .i64 0),(.int .u8 1),(.int .i64 1),(.int .i64 0),(.int .i64 0)]),(U 2)),((.agg [(.int .i64 0),(.int .i64 0),(.int .u8 0),(.int .i64 0),(.int .i64 0),(.int .i64 0),(.int .u8 1),(.int .i64 2),(.int .i64 0),(.int .i64 0)]),(U 9)),((.agg [(.int .i64 1),(.int .i64 0),(.int .u8 0),(.int .i64 0),(.int .i64 0),(.int .i64 0),(.int .u8 1),(.int .i64 1),(.int .i64 0),(.int .i64 0)]),(U 1)),((.agg [(.int .i64 2),(.int .i64 0),(.int .u8 0),(.int .i64 0),(.int .i64 0),(.int .i64 0),(.int .u8 1),(.int .i64 5),(.int .i64 0),(.int .i64 0)]),(U 9))] [])),(1126907,(.mp false [((.agg [(.int .i64 1),(.int .u8 1)]),(I 3)),((.agg [(.int .i64 1),(.int .u8 2)]),(I 4))] [])),(1126913,(.mp false [((.one (.int .i64 1)),(.lp 1126912 0)),((.one (.int .i64 2)),(.lp 1126911 0)),((.one (.int .i64 3)),(.lp 1126910 0)),((.one (.int .i64 4)),(.lp 1126909 0)),((.one (.int .i64 5)),(.lp 1126908 0))] [])),(1209601,(.osl false 43 6 [[(T [103]),(U 4),(I 0),(T []),(N 0),(I 3)]])),(1613461,(.cells false [(.h 1613459)])),(1209885,(.osl false 43 6 [[(T [110]),(U 4),(I 0),(T []),(N 0),(I 5)]])),(1126909,(.cells false [(U 14),(I 0),(U 0),(I 0),(T []),(N 0),(I 0),(N 5),(I 0),(I 0),(I 1),(I 0),(U 2),(B false),(N 17),(N 6)])),(1126912,(.cells false [(U 1),(I 0),(U 0),(I 0),(T []),(N 0),(I 0),(N 5),(I 0),(I 0),(I 0),(I 0),(U 0),(B false),(N 17),(N 6)])),(1208960,(.mp false [((.one (.int .i64 1)),(I 1)),((.one (.int .i64 2)),(I 2)),((.one (.int .i64 3)),(I 1)),((.one (.int .i64 4)),(I 1)),((.one (.int .i64 5)),(I 5))] [])),(1209616,(.osl false 27 1 [[(I 3)]])),(1208968,(.mp false [((.agg [(.int .i64 0),(.int .i64 0),(.int .u8 0),(.int .i64 0),(.int .i64 0),(.int .i64 0),(.int .u8 1),(.int .i64 1),(.int .i64 0),(.int .i64 0)]),(B true)),((.agg [(.int .i64 0),(.int .i64 0),(.int .u8 0),(.int .i64 0),(.int .i64 0),(.int .i64 0),(.int .u8 1),(.int .i64 2),(.int .i64 0),(.int .i64 0)]),(B true)),((.agg [(.int .i64 0),(.int .i64 0),(.int .u8 0),(.int .i64 0),(.int .i64 0),(.int .i64 0),(.int .u8 2),(.int .i64 0),(.int .i64 0),(.int .i64 0)]),(B true)),((.agg [(.int .i64 0),(.int .i64 0),(.int .u8 0),(.int .i64 0),(.int .i64 0),(.int .i64 0),(.int .u8 2),(.int .i64 0),(.int .i64 1),(.int .i64 0)]),(B true)),((.agg [(.int .i64 1),(.int .i64 0),(.int .u8 0),(.int .i64 0),(.int .i64 0),(.int .i64 0),(.int .u8 1),(.int .i64 1),(.int .i64 0),(.int .i64 0)]),(B true)),((.agg [(.int .i64 1),(.int .i64 0),(.int .u8 0),(.int .i64 0),(.int .i64 0),(.int .i64 0),(.int .u8 1),(.int .i64 2),(.int .i64 0),(.int .i64 0)]),(B true)),((.agg [(.int .i64 1),(.int .i64 0),(.int .u8 0),(.int .i64 0),(.int .i64 0),(.int .i64 0),(.int .u8 2),(.int .i64 0),(.int .i64 0),(.int .i64 0)]),(B true)),((.agg [(.int .i64 1),(.int .i64 0),(.int .u8 0),(.int .i64 0),(.int .i64 0),(.int .i64 0),(.int .u8 2),(.int .i64 0),(.int .i64 1),(.int .i64 0)]),(B true)),((.agg [(.int .i64 2),(.int .i64 0),(.int .u8 0),(.int .i64 0),(.int .i64 0),(.int .i64 0),(.int .u8 1),(.int .i64 5),(.int .i64 0),(.int .i64 0)]),(B true)),((.agg [(.int .i64 2),(.int .i64 0),(.int .u8 0),(.int .i64 0),(.int .i64 0),(.int .i64 0),(.int .u8 2),(.int .i64 0),(.int .i64 2),(.int .i64 0)]),(B true))] [])),(1208964,(.mp false [((.agg [(.int .i64 0),(.int .i64 0)]),(I 0)),((.agg [(.int .i64 1),(.int .i64 0)]),(I 0)),((.agg [(.int .i64 2),(.int .i64 0)]),(I 0))] [])),(1209900,(.osl false 27 1 [[(I 5)]])),(1126908,(.cells false [(U 2),(I 0),(U 0),(I 0),(T []),(N 0),(I 0),(N 5),(I 0),(I 0),(I 0),(I 0),(U 0),(B false),(N 17),(N 6)])),(1126914,(.osl false 4 1 [[(B false)]])),(1208962,(.mp false [((.agg [(.int .i64 0),(.int .i64 0)]),(.agg [(U 63),(B true),(B true)])),((.agg [(.int .i64 1),(.int .i64 0)]),(.agg [(U 63),(B true),(B true)])),((.agg [(.int .i64 2),(.int .i64 0)]),(.agg [(U 63),(B true),(B true)]))] [])),(1211458,(.osl false 104 4 [[(U 1),(I 1),(I 0),(I 0)],[(U 1),(I 2),(I 0),(I 0)],[(U 1),(I 5),(I 0),(I 0)],[(U 2),(I 0),(I 0),(I 0)],[(U 2),(I 0),(I 1),(I 0)],[(U 2),(I 0),(I 2),(I 0)]])),(1126906,(.osl false 3 1 [[(I 3)]])),(1208966,(.mp false [((.agg [(.int .u8 1),(.int .i64 1),(.int .i64 0),(.int .i64 0)]),(B true)),((.agg [(.int .u8 1),(.int .i64 2),(.int .i64 0),(.int .i64 0)]),(B true)),((.agg [(.int .u8 1),(.int .i64 5),(.int .i64 0),(.int .i64 0)]),(B true)),((.agg [(.int .u8 2),(.int .i64 0),(.int .i64 0),(.int .i64 0)]),(B true)),((.agg [(.int .u8 2),(.int .i64 0),(.int .i64 1),(.int .i64 0)]),(B true)),((.agg [(.int .u8 2),(.int .i64 0),(.int .i64 2),(.int .i64 0)]),(B true))] [])),(1209318,(.osl false 43 6 [[(T [99]),(U 4),(I 0),(T []),(N 0),(I 4)],[(T [108]),(U 4),(I 0),(T []),(N 0),(I 2)]])),(1209334,(.osl false 27 1 [[(I 4)],[(I 2)]])),(1611294,(.cells false [(.lp 1208971 0),(.h 1611291)])),(1209918,(.osl false 47 4 [[(I 0),(N 17),(.h 1209318),(.h 1209334)],[(I 0),(N 17),(.h 1209601),(.h 1209616)],[(I 0),(N 17),(.h 1209885),(.h 1209900)]])),(1208958,(.mp false [((.one (.int .i64 1)),(.agg [(U 1),(I 0),(U 0),(I 0),(T []),(N 0),(I 0),(N 5),(I 0),(I 0),(I 0),(I 0),(U 0),(B false),(N 17),(N 6)])),((.one (.int .i64 2)),(.agg [(U 2),(I 0),(U 0),(I 0),(T []),(N 0),(I 0),(N 5),(I 0),(I 0),(I 0),(I 0),(U 0),(B false),(N 17),(N 6)])),((.one (.int .i64 3)),(.agg [(U 14),(I 0),(U 0),(I 0),(T []),(N 0),(I 0),(N 5),(I 0),(I 0),(I 1),(I 0),(U 1),(B false),(N 17),(N 6)])),((.one (.int .i64 4)),(.agg [(U 14),(I 0),(U 0),(I 0),(T []),(N 0),(I 0),(N 5),(I 0),(I 0),(I 1),(I 0),(U 2),(B false),(N 17),(N 6)])),((.one (.int .i64 5)),(.agg [(U 2),(I 0),(U 0),(I 0),(T []),(N 0),(I 0),(N 5),(I 0),(I 0),(I 0),(I 0),(U 0),(B false),(N 17),(N 6)]))] [])),(1126910,(.cells false [(U 14),(I 0),(U 0),(I 0),(T []),(N 0),(I 0),(N 5),(I 0),(I 0),(I 1),(I 0),(U 1),(B false),(N 17),(N 6)]))]
def r141 : Rt := (.ok (B true))
def u141 : List (Nat × R) := [(1613459,(.mp false [((.agg [(.int .i64 0),(.int .i64 0),(.int .u8 0),(.int .i64 0),(.int .i64 0),(.int .i64 0),(.int .u8 1),(.int .i64 1),(.int .i64 0),(.int .i64 0),(.int .u8 0)]),(.agg [(I 0),(N 11)])),((.agg [(.int .i64 0),(.int .i64 0),(.int .u8 0),(.int .i64 0),(.int .i64 0),(.int .i64 0),(.int .u8 1),(.int .i64 1),(.int .i64 0),(.int .i64 0),(.int .u8 2)]),(.agg [(I 0),(N 11)])),((.agg [(.int .i64 0),(.int .i64 0),(.int .u8 0),(.int .i64 0),(.int .i64 0),(.int .i64 0),(.int .u8 1),(.int .i64 2),(.int .i64 0),(.int .i64 0),(.int .u8 0)]),(.agg [(I 0),(N 11)])),((.agg [(.int .i64 0),(.int .i64 0),(.int .u8 0),(.int .i64 0),(.int .i64 0),(.int .i64 0),(.int .u8 1),(.int .i64 2),(.int .i64 0),(.int .i64 0),(.int .u8 1)]),(.agg [(I 0),(N 11)])),((.agg [(.int .i64 0),(.int .i64 0),(.int .u8 0),(.int .i64 0),(.int .i64 0),(.int .i64 0),(.int .u8 1),(.int .i64 2),(.int .i64 0),(.int .i64 0),(.int .u8 8)]),(.agg [(I 0),(N 11)])),((.agg [(.int .i64 1),(.int .i64 0),(.int .u8 0),(.int .i64 0),(.int .i64 0),(.int .i64 0),(.int .u8 1),(.int .i64 1),(.int .i64 0),(.int .i64 0),(.int .u8 0)]),(.agg [(I 0),(N 11)])),((.agg [(.int .i64 1),(.int .i64 0),(.int .u8 0),(.int .i64 0),(.int .i64 0),(.int .i64 0),(.int .u8 1),(.int .i64 1),(.int .i64 0),(.int .i64 0),(.int .u8 1)]),(.agg [(I 0),(N 11)])),((.agg [(.int .i64 2),(.int .i64 0),(.int .u8 0),(.int .i64 0),(.int .i64 0),(.int .i64 0),(.int .u8 1),(.int .i64 5),(.int .i64 0),(.int .i64 0),(.int .u8 0)]),(.agg [(I 0),(N 11)])),((.agg [(.int .i64 2),(.int .i64 0),(.int .u8 0),(.int .i64 0),(.int .i64 0),(.int .i64 0),(.int .u8 1),(.int .i64 5),(.int .i64 0),(.int .i64 0),(.int .u8 1)]),(.agg [(I 0),(N 11)])),((.agg [(.int .i64 2),(.int .i64 0),(.int .u8 0),(.int .i64 0),(.int .i64 0),(.int .i64 0),(.int .u8 1),(.int .i64 5),(.int .i64 0),(.int .i64 0),(.int .u8 8)]),(.agg [(I 0),(N 11)]))] []))]
def H141 (g : Hd) : Hd := hitR 81 as141 m141 r141 u141 1613467 1615758 g
theorem piece141 : resEqb (evH Tryz.prog ctB 60 (.fn 81) as141 (trU m141) 1613467) r141 u141 1615758 = true := by kernel_rfl
/-- exact calls -/
def frB (t : Tr R) (m : List (Nat × R)) : List (Nat × R) → Bool
  | [] => true
  | (i, _) :: u => cond (keyB i m) true (freeB t.get i) && frB t m u
theorem subB_mem {t : Tr R} : ∀ {m : List (Nat × R)}, subB t m = true → ∀ p ∈ m, t.get p.1 = some p.2
  | [], _, p, hp => by simp at hp
  | (i, r) :: m, h, p, hp => by
    simp only [subB, Bool.and_eq_true] at h
    simp only [List.mem_cons] at hp
    rcases hp with rfl | hp
    · exact oEqb_eq h.1
    · exact subB_mem h.2 p hp
theorem keyB_ne {i : Nat} {m : List (Nat × R)} (h : keyB i m = true) : applyU (fun _ => none) m i ≠ none := by
  obtain ⟨p, hp, rfl⟩ := keyB_mem h
  exact applyU_key hp
theorem frB_mem {t : Tr R} {m : List (Nat × R)} : ∀ {u : List (Nat × R)}, frB t m u = true → ∀ p ∈ u, keyB p.1 m = true ∨ t.get p.1 = none
  | [], _, p, hp => by simp at hp
  | (i, r) :: u, h, p, hp => by
    simp only [frB, Bool.and_eq_true] at h
    simp only [List.mem_cons] at hp
    rcases hp with rfl | hp
    · cases hk : keyB i m with
      | true => exact .inl rfl
      | false => rw [hk] at h; exact .inr (freeB_eq h.1)
    · exact frB_mem h.2 p hp
def hitM (f0 : Nat) (as0 : List A) (m0 : List (Nat × R)) (r0 : Rt) (u0 : List (Nat × R)) (n0 : Nat) (g : Hd) : Hd := fun c xs t nx => match c with
  | .fn f => cond (Nat.beq f f0) (cond (A.eqbL xs as0 && (subB t m0 && frB t m0 u0)) (some ([(r0, u0)], n0)) (g c xs t nx)) (g c xs t nx)
  | _ => g c xs t nx
theorem hitM_ok {P : Program} {f0 : Nat} {as0 : List A} {m0 : List (Nat × R)} {r0 : Rt} {u0 : List (Nat × R)} {n0 : Nat} {g g0 : Hd} (hg : HdOk P g) (h0 : HdOk P g0) {nx0 : Nat} (hc : clB as0 m0 = true) (he : g0 (.fn f0) as0 (trU m0) nx0 = some ([(r0, u0)], n0)) : HdOk P (hitM f0 as0 m0 r0 u0 n0 g) := by
  refine ⟨fun f xs t nx outs nx' h => ?_, fun i xs t nx outs nx' h => hg.yl _ _ _ _ _ _ h, fun f xs t nx outs nx' h => hg.ex _ _ _ _ _ _ h⟩
  replace h : cond (Nat.beq f f0) (cond (A.eqbL xs as0 && (subB t m0 && frB t m0 u0)) (some ([(r0, u0)], n0)) (g (.fn f) xs t nx)) (g (.fn f) xs t nx) = some (outs, nx') := h
  cases hf : Nat.beq f f0 with
  | false => rw [hf] at h; exact hg.fn _ _ _ _ _ _ h
  | true =>
    rw [hf] at h
    simp only [cond_true] at h
    have hf := Nat.eq_of_beq_eq_true hf; subst hf
    cases hq : A.eqbL xs as0 && (subB t m0 && frB t m0 u0) with
    | false => rw [hq] at h; exact hg.fn _ _ _ _ _ _ h
    | true =>
      rw [hq] at h
      simp only [cond_true, Option.some.injEq, Prod.mk.injEq] at h
      obtain ⟨rfl, rfl⟩ := h
      simp only [Bool.and_eq_true] at hq
      obtain ⟨r, u, e, hcall⟩ := h0.fn _ _ _ _ _ _ he
      simp only [List.cons.injEq, Prod.mk.injEq, and_true] at e
      obtain ⟨rfl, rfl⟩ := e
      rw [A.eqbL_eq _ _ hq.1]
      refine ⟨_, _, rfl, ?_⟩
      rw [trU_get] at hcall
      unfold clB at hc
      simp only [Bool.and_eq_true, List.all_eq_true] at hc
      have hs := subB_mem hq.2.1
      have hfr := frB_mem hq.2.2
      have key : ∀ i r, applyU (fun _ => none) m0 i = some r → (i, r) ∈ m0 := by
        intro i r hi
        rcases applyU_cases' hi with e | ⟨e, _⟩
        · exact e
        · cases e
      refine CallT.frame hcall (fun i hi => keyB_ne (hc.1 i hi)) (fun i r hi => hs (i, r) (key i r hi)) (fun i r hi j hj => keyB_ne (hc.2 _ (key i r hi) j hj)) (fun p hp hn => ?_)
      rcases hfr p hp with e | e
      · exact absurd hn (keyB_ne e)
      · exact e

/-- a handler chosen by the next name -/
def pickN (l : List (Nat × Hd)) (g : Hd) (nx : Nat) : Hd := match l with
  | [] => g
  | (k, h) :: r => cond (Nat.beq nx k) h (pickN r g nx)
def pickH (lo hi : Nat) (l : List (Nat × Hd)) (g g2 : Hd) : Hd := fun c xs t nx => match c with
  | .fn f => cond (Nat.ble lo f && Nat.ble f hi) (pickN l g nx c xs t nx) (g2 c xs t nx)
  | _ => g2 c xs t nx
theorem pickN_ok {P : Program} {g : Hd} (hg : HdOk P g) (nx : Nat) : ∀ (l : List (Nat × Hd)), (∀ p ∈ l, HdOk P p.2) → HdOk P (pickN l g nx)
  | [], _ => hg
  | (k, h) :: r, hl => by
    unfold pickN
    cases Nat.beq nx k with
    | true => exact hl _ (List.mem_cons_self ..)
    | false => exact pickN_ok hg nx r fun p hp => hl p (List.mem_cons_of_mem _ hp)
theorem pickH_ok {P : Program} {lo hi : Nat} {l : List (Nat × Hd)} {g g2 : Hd} (hg : HdOk P g) (h2 : HdOk P g2) (hl : ∀ p ∈ l, HdOk P p.2) : HdOk P (pickH lo hi l g g2) := by
  refine ⟨fun f xs t nx outs nx' h => ?_, fun i xs t nx outs nx' h => h2.yl _ _ _ _ _ _ h, fun f xs t nx outs nx' h => h2.ex _ _ _ _ _ _ h⟩
  replace h : cond (Nat.ble lo f && Nat.ble f hi) (pickN l g nx (.fn f) xs t nx) (g2 (.fn f) xs t nx) = some (outs, nx') := h
  cases hb : Nat.ble lo f && Nat.ble f hi with
  | true => rw [hb] at h; exact (pickN_ok hg nx l hl).fn _ _ _ _ _ _ h
  | false => rw [hb] at h; exact h2.fn _ _ _ _ _ _ h
def M83 : Hd := hitM 183 as83 m83 r83 u83 1619043 ctB
def M84 : Hd := hitM 186 as84 m84 r84 u84 1624198 ctB
def M85 : Hd := hitM 187 as85 m85 r85 u85 1624735 ctB
def M86 : Hd := hitM 183 as86 m86 r86 u86 1628374 ctB
def M87 : Hd := hitM 186 as87 m87 r87 u87 1633725 ctB
def M88 : Hd := hitM 187 as88 m88 r88 u88 1634262 ctB
def M89 : Hd := hitM 183 as89 m89 r89 u89 1635600 ctB
def M90 : Hd := hitM 186 as90 m90 r90 u90 1640048 ctB
def M91 : Hd := hitM 183 as91 m91 r91 u91 1647016 ctB
def M92 : Hd := hitM 184 as92 m92 r92 u92 1647575 ctB
def M93 : Hd := hitM 185 as93 m93 r93 u93 1648164 ctB
def M94 : Hd := hitM 186 as94 m94 r94 u94 1652717 ctB
def M95 : Hd := hitM 187 as95 m95 r95 u95 1653254 ctB
def M96 : Hd := hitM 183 as96 m96 r96 u96 1665056 ctB
def M97 : Hd := hitM 184 as97 m97 r97 u97 1665787 ctB
def M98 : Hd := hitM 185 as98 m98 r98 u98 1666580 ctB
def M99 : Hd := hitM 186 as99 m99 r99 u99 1677636 ctB
def M100 : Hd := hitM 187 as100 m100 r100 u100 1678323 ctB
def M101 : Hd := hitM 183 as101 m101 r101 u101 1681528 ctB
def M102 : Hd := hitM 186 as102 m102 r102 u102 1686187 ctB
def M103 : Hd := hitM 183 as103 m103 r103 u103 1698942 ctB
def M104 : Hd := hitM 184 as104 m104 r104 u104 1699673 ctB
def M105 : Hd := hitM 185 as105 m105 r105 u105 1700466 ctB
def M106 : Hd := hitM 186 as106 m106 r106 u106 1712040 ctB
def M107 : Hd := hitM 187 as107 m107 r107 u107 1712727 ctB
def M108 : Hd := hitM 183 as108 m108 r108 u108 1724470 ctB
def M109 : Hd := hitM 184 as109 m109 r109 u109 1725201 ctB
def M110 : Hd := hitM 185 as110 m110 r110 u110 1725994 ctB
def M111 : Hd := hitM 186 as111 m111 r111 u111 1737568 ctB
def M112 : Hd := hitM 187 as112 m112 r112 u112 1738255 ctB
def M113 : Hd := hitM 183 as113 m113 r113 u113 1741706 ctB
def M114 : Hd := hitM 186 as114 m114 r114 u114 1746365 ctB
def M115 : Hd := hitM 183 as115 m115 r115 u115 1758519 ctB
def M116 : Hd := hitM 184 as116 m116 r116 u116 1759250 ctB
def M117 : Hd := hitM 185 as117 m117 r117 u117 1760043 ctB
def M118 : Hd := hitM 186 as118 m118 r118 u118 1771617 ctB
def M119 : Hd := hitM 187 as119 m119 r119 u119 1772304 ctB
def tab120 : List (Nat × Hd) := [(1615875, M83), (1619823, M84), (1624206, M85), (1624779, M86), (1629154, M87), (1633733, M88), (1634306, M89), (1636128, M90), (1640503, M91), (1647024, M92), (1647583, M93), (1648172, M94), (1652725, M95), (1653298, M96), (1665064, M97), (1665795, M98), (1666588, M99), (1677644, M100), (1678367, M101), (1682432, M102), (1686642, M103), (1698950, M104), (1699681, M105), (1700474, M106), (1712048, M107), (1712771, M108), (1724478, M109), (1725209, M110), (1726002, M111), (1737576, M112), (1738299, M113), (1742610, M114), (1746820, M115), (1758527, M116), (1759258, M117), (1760051, M118), (1771625, M119)]
def ct120b : Hd := H140 (H141 (pickH 183 187 tab120 ct120 ctB))
theorem piece120 : resEqb (evH Tryz.prog ct120b 60 (.fn 34) as120 (trU m120) 1611195) r120 u120 1772736 = true := by kernel_rfl
end Go.Pv.NP
